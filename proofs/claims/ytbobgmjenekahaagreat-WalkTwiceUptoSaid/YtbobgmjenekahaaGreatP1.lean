/- Printed walks. -/
import Derived.Test.YtbobgmjenekahaaGreatP0
set_option linter.unusedVariables false
set_option linter.unusedSimpArgs false
namespace Go.TL.Pr
open Go.TL
open Go.Proofs.Tryz
set_option maxRecDepth 100000
set_option maxHeartbeats 2000000
set_option linter.unusedSimpArgs false
set_option linter.unusedVariables false
noncomputable section
/- 34: mapsheets/mapsheetsref14.Check -/
noncomputable def r14_Check_fams : List Fam := [r14_limits_fam, r14_ids_fam, r14_ascending_fam, r14_ranges_fam, r14_twice_fam, r14_line_fam, r14_Face_fam, r14_planar_fam]
def r14_Check_L0b (a0 : Plan) : Int → Option ((Int) ⊕ ((Unit) ⊕ (Unit))) := fun i3 => (if i3 < ((a0.arcs.length : Int)) then ((at_ a0.arcs i3).bind fun e3 => ((r14_line a0 e3).bind fun y11 => (if y11.2 = true then some (.inl (w64 (i3 + 1))) else some (.inr (Sum.inl ()))))) else some (.inr (Sum.inr ())))
def r14_Check_L0R (a0 : Plan) : Int → Fr → TS → Prop := fun i3 f S => ∃ os, S = E0 os ∧ OsOk os ∧ f 1 = .lv [.r (.lst (List.map Node.e a0.nodes) none), .r (.lst (List.map Arc.e a0.arcs) none), .r (.lst (List.map int1 a0.faces) none)] ∧ f 3 = I i3
def r14_Check_L0E (a0 : Plan) : ((Unit) ⊕ (Unit)) → TX → Fr → TS → Prop
  | (Sum.inl ()), tx, f, S => tx = TX.ret ∧ ∃ os, S = E0 os ∧ OsOk os ∧ f 2 = I 7
  | (Sum.inr ()), tx, f, S => tx = TX.exit 0 ∧ ∃ os, S = E0 os ∧ OsOk os ∧ f 1 = .lv [.r (.lst (List.map Node.e a0.nodes) none), .r (.lst (List.map Arc.e a0.arcs) none), .r (.lst (List.map int1 a0.faces) none)]
noncomputable def r14_Check_L0 (a0 : Plan) (s : Int) : Option ((Unit) ⊕ (Unit)) := loopO (r14_Check_L0b a0) s
theorem r14_Check_L0_ok {a0 : Plan} {s : Int} {r : (Unit) ⊕ (Unit)} {Q : TX → Fr → TS → Prop} (h : r14_Check_L0 a0 s = some r) {f : Fr} {S : TS} (hR : r14_Check_L0R a0 s f S) (hQ : ∀ tx f S, r14_Check_L0E a0 r tx f S → Q tx f S) : wp prog [1] (callX prog cfg (famT r14_Check_fams)) (.loop x34L0) Q f S := by
  refine wp_loopO x34L0.eq_1 ?_ h hR hQ
  clear hQ hR h
  intro s x f S h hR
  revert h hR; revert s; intro i3 h hR
  obtain ⟨os7, rfl, qos7, f1, f3⟩ := hR
  unfold r14_Check_L0b at h
  try dsimp only at h
  by_cases c11 : i3 < ((a0.arcs.length : Int))
  · have bc11 : (decide (i3 < ((a0.arcs.length : Int)))) = true := decT c11
    rw [if_pos c11] at h
    have rsr3 := sameS_refl qos7
    obtain ⟨e3, he3, h⟩ := obind h
    have i5 := indexSl_at (enc := Arc.e) he3 (sz := 6) rfl
    obtain ⟨y11, hy11, h⟩ := obind h
    have g11 : ∀ os, callX prog cfg (famT r14_Check_fams) 59 [.agg [.r (.lst (List.map Node.e a0.nodes) none), .r (.lst (List.map Arc.e a0.arcs) none), .r (.lst (List.map int1 a0.faces) none)], .agg [I e3.id, I e3.frm, I e3.to, .r (.lst (List.map Pt.e e3.via) none), I e3.left, I e3.right]] (E0 os) = some (.tup [.r (.lst (List.map Pt.e y11.1) none), B y11.2], E0 os, none) := fun os => callX_fam rfl (famLook_skip rfl <| famLook_skip rfl <| famLook_skip rfl <| famLook_skip rfl <| famLook_skip rfl <| famLook_hit rfl (r14_line_val hy11))
    by_cases c12 : y11.2 = true
    · have bc12 : (y11.2) = true := id c12
      rw [if_pos c12] at h
      cases h
      simp only [stepQ_normal, ↓askB_true, ↓askB_false, beq_self_eq_true, wz, Nat.reduceAdd, Nat.reduceSub, Nat.reduceMul, Nat.reduceBEq, Nat.reduceEqDiff, Nat.reduceLeDiff, Nat.reduceLT, reduceCtorEq, Arc.e, Node.e, Pt.e, int1, f1, f3, bc11, rsr3, i5, g11, bc12]
      unfold r14_Check_L0R
      refine ⟨os7, rfl, qos7, ?_⟩
      simp only [↓askB_true, ↓askB_false, beq_self_eq_true, wz, Nat.reduceAdd, Nat.reduceSub, Nat.reduceMul, Nat.reduceBEq, Nat.reduceEqDiff, Nat.reduceLeDiff, Nat.reduceLT, reduceCtorEq, Arc.e, Node.e, Pt.e, int1, f1, f3, bc11, rsr3, i5, g11, bc12]
    · have bc12 : (y11.2) = false := boolF c12
      rw [if_neg c12] at h
      cases h
      simp only [stepQ_exit, stepQ_ret, ↓askB_true, ↓askB_false, beq_self_eq_true, wz, Nat.reduceAdd, Nat.reduceSub, Nat.reduceMul, Nat.reduceBEq, Nat.reduceEqDiff, Nat.reduceLeDiff, Nat.reduceLT, reduceCtorEq, Arc.e, Node.e, Pt.e, int1, f1, f3, bc11, rsr3, i5, g11, bc12]
      unfold r14_Check_L0E
      refine ⟨rfl, ?_⟩
      refine ⟨os7, rfl, qos7, ?_⟩
      simp only [↓askB_true, ↓askB_false, beq_self_eq_true, wz, Nat.reduceAdd, Nat.reduceSub, Nat.reduceMul, Nat.reduceBEq, Nat.reduceEqDiff, Nat.reduceLeDiff, Nat.reduceLT, reduceCtorEq, Arc.e, Node.e, Pt.e, int1, f1, f3, bc11, rsr3, i5, g11, bc12]
  · have bc11 : (decide (i3 < ((a0.arcs.length : Int)))) = false := decF c11
    rw [if_neg c11] at h
    cases h
    simp only [stepQ_exit, stepQ_ret, ↓askB_true, ↓askB_false, beq_self_eq_true, wz, Nat.reduceAdd, Nat.reduceSub, Nat.reduceMul, Nat.reduceBEq, Nat.reduceEqDiff, Nat.reduceLeDiff, Nat.reduceLT, reduceCtorEq, Arc.e, Node.e, Pt.e, int1, f1, f3, bc11]
    unfold r14_Check_L0E
    refine ⟨rfl, ?_⟩
    refine ⟨os7, rfl, qos7, ?_⟩
    simp only [↓askB_true, ↓askB_false, beq_self_eq_true, wz, Nat.reduceAdd, Nat.reduceSub, Nat.reduceMul, Nat.reduceBEq, Nat.reduceEqDiff, Nat.reduceLeDiff, Nat.reduceLT, reduceCtorEq, Arc.e, Node.e, Pt.e, int1, f1, f3, bc11]

def r14_Check_L1b (a0 : Plan) : Int → Option ((Int) ⊕ ((Unit) ⊕ (Unit))) := fun i8 => (if i8 < ((a0.arcs.length : Int)) then ((at_ a0.arcs i8).bind fun e6 => ((r14_Face a0 e6.left).bind fun y16 => (if y16 = true then ((r14_Face a0 e6.right).bind fun y17 => (if y17 = true then some (.inl (w64 (i8 + 1))) else some (.inr (Sum.inl ())))) else some (.inr (Sum.inl ()))))) else some (.inr (Sum.inr ())))
def r14_Check_L1R (a0 : Plan) : Int → Fr → TS → Prop := fun i8 f S => ∃ os, S = E0 os ∧ OsOk os ∧ f 1 = .lv [.r (.lst (List.map Node.e a0.nodes) none), .r (.lst (List.map Arc.e a0.arcs) none), .r (.lst (List.map int1 a0.faces) none)] ∧ f 6 = I i8
def r14_Check_L1E (a0 : Plan) : ((Unit) ⊕ (Unit)) → TX → Fr → TS → Prop
  | (Sum.inl ()), tx, f, S => tx = TX.ret ∧ ∃ os, S = E0 os ∧ OsOk os ∧ f 2 = I 12
  | (Sum.inr ()), tx, f, S => tx = TX.exit 2 ∧ ∃ os, S = E0 os ∧ OsOk os ∧ f 1 = .lv [.r (.lst (List.map Node.e a0.nodes) none), .r (.lst (List.map Arc.e a0.arcs) none), .r (.lst (List.map int1 a0.faces) none)]
noncomputable def r14_Check_L1 (a0 : Plan) (s : Int) : Option ((Unit) ⊕ (Unit)) := loopO (r14_Check_L1b a0) s
theorem r14_Check_L1_ok {a0 : Plan} {s : Int} {r : (Unit) ⊕ (Unit)} {Q : TX → Fr → TS → Prop} (h : r14_Check_L1 a0 s = some r) {f : Fr} {S : TS} (hR : r14_Check_L1R a0 s f S) (hQ : ∀ tx f S, r14_Check_L1E a0 r tx f S → Q tx f S) : wp prog [1] (callX prog cfg (famT r14_Check_fams)) (.loop x34L1) Q f S := by
  refine wp_loopO x34L1.eq_1 ?_ h hR hQ
  clear hQ hR h
  intro s x f S h hR
  revert h hR; revert s; intro i8 h hR
  obtain ⟨os12, rfl, qos12, f1, f6⟩ := hR
  unfold r14_Check_L1b at h
  try dsimp only at h
  by_cases c19 : i8 < ((a0.arcs.length : Int))
  · have bc19 : (decide (i8 < ((a0.arcs.length : Int)))) = true := decT c19
    rw [if_pos c19] at h
    have rsr6 := sameS_refl qos12
    obtain ⟨e6, he6, h⟩ := obind h
    have i10 := indexSl_at (enc := Arc.e) he6 (sz := 6) rfl
    obtain ⟨y16, hy16, h⟩ := obind h
    have g16 : ∀ os, callX prog cfg (famT r14_Check_fams) 60 [.agg [.r (.lst (List.map Node.e a0.nodes) none), .r (.lst (List.map Arc.e a0.arcs) none), .r (.lst (List.map int1 a0.faces) none)], I e6.left] (E0 os) = some (B y16, E0 os, none) := fun os => callX_fam rfl (famLook_skip rfl <| famLook_skip rfl <| famLook_skip rfl <| famLook_skip rfl <| famLook_skip rfl <| famLook_skip rfl <| famLook_hit rfl (r14_Face_val hy16))
    by_cases c20 : y16 = true
    · have bc20 : (y16) = true := id c20
      rw [if_pos c20] at h
      obtain ⟨y17, hy17, h⟩ := obind h
      have g17 : ∀ os, callX prog cfg (famT r14_Check_fams) 60 [.agg [.r (.lst (List.map Node.e a0.nodes) none), .r (.lst (List.map Arc.e a0.arcs) none), .r (.lst (List.map int1 a0.faces) none)], I e6.right] (E0 os) = some (B y17, E0 os, none) := fun os => callX_fam rfl (famLook_skip rfl <| famLook_skip rfl <| famLook_skip rfl <| famLook_skip rfl <| famLook_skip rfl <| famLook_skip rfl <| famLook_hit rfl (r14_Face_val hy17))
      by_cases c21 : y17 = true
      · have bc21 : (y17) = true := id c21
        rw [if_pos c21] at h
        cases h
        simp only [stepQ_normal, ↓askB_true, ↓askB_false, beq_self_eq_true, wz, Nat.reduceAdd, Nat.reduceSub, Nat.reduceMul, Nat.reduceBEq, Nat.reduceEqDiff, Nat.reduceLeDiff, Nat.reduceLT, reduceCtorEq, Arc.e, Node.e, Pt.e, int1, f1, f6, bc19, rsr6, i10, g16, bc20, g17, bc21]
        unfold r14_Check_L1R
        refine ⟨os12, rfl, qos12, ?_⟩
        simp only [↓askB_true, ↓askB_false, beq_self_eq_true, wz, Nat.reduceAdd, Nat.reduceSub, Nat.reduceMul, Nat.reduceBEq, Nat.reduceEqDiff, Nat.reduceLeDiff, Nat.reduceLT, reduceCtorEq, Arc.e, Node.e, Pt.e, int1, f1, f6, bc19, rsr6, i10, g16, bc20, g17, bc21]
      · have bc21 : (y17) = false := boolF c21
        rw [if_neg c21] at h
        cases h
        simp only [stepQ_exit, stepQ_ret, ↓askB_true, ↓askB_false, beq_self_eq_true, wz, Nat.reduceAdd, Nat.reduceSub, Nat.reduceMul, Nat.reduceBEq, Nat.reduceEqDiff, Nat.reduceLeDiff, Nat.reduceLT, reduceCtorEq, Arc.e, Node.e, Pt.e, int1, f1, f6, bc19, rsr6, i10, g16, bc20, g17, bc21]
        unfold r14_Check_L1E
        refine ⟨rfl, ?_⟩
        refine ⟨os12, rfl, qos12, ?_⟩
        simp only [↓askB_true, ↓askB_false, beq_self_eq_true, wz, Nat.reduceAdd, Nat.reduceSub, Nat.reduceMul, Nat.reduceBEq, Nat.reduceEqDiff, Nat.reduceLeDiff, Nat.reduceLT, reduceCtorEq, Arc.e, Node.e, Pt.e, int1, f1, f6, bc19, rsr6, i10, g16, bc20, g17, bc21]
    · have bc20 : (y16) = false := boolF c20
      rw [if_neg c20] at h
      cases h
      simp only [stepQ_exit, stepQ_ret, ↓askB_true, ↓askB_false, beq_self_eq_true, wz, Nat.reduceAdd, Nat.reduceSub, Nat.reduceMul, Nat.reduceBEq, Nat.reduceEqDiff, Nat.reduceLeDiff, Nat.reduceLT, reduceCtorEq, Arc.e, Node.e, Pt.e, int1, f1, f6, bc19, rsr6, i10, g16, bc20]
      unfold r14_Check_L1E
      refine ⟨rfl, ?_⟩
      refine ⟨os12, rfl, qos12, ?_⟩
      simp only [↓askB_true, ↓askB_false, beq_self_eq_true, wz, Nat.reduceAdd, Nat.reduceSub, Nat.reduceMul, Nat.reduceBEq, Nat.reduceEqDiff, Nat.reduceLeDiff, Nat.reduceLT, reduceCtorEq, Arc.e, Node.e, Pt.e, int1, f1, f6, bc19, rsr6, i10, g16, bc20]
  · have bc19 : (decide (i8 < ((a0.arcs.length : Int)))) = false := decF c19
    rw [if_neg c19] at h
    cases h
    simp only [stepQ_exit, stepQ_ret, ↓askB_true, ↓askB_false, beq_self_eq_true, wz, Nat.reduceAdd, Nat.reduceSub, Nat.reduceMul, Nat.reduceBEq, Nat.reduceEqDiff, Nat.reduceLeDiff, Nat.reduceLT, reduceCtorEq, Arc.e, Node.e, Pt.e, int1, f1, f6, bc19]
    unfold r14_Check_L1E
    refine ⟨rfl, ?_⟩
    refine ⟨os12, rfl, qos12, ?_⟩
    simp only [↓askB_true, ↓askB_false, beq_self_eq_true, wz, Nat.reduceAdd, Nat.reduceSub, Nat.reduceMul, Nat.reduceBEq, Nat.reduceEqDiff, Nat.reduceLeDiff, Nat.reduceLT, reduceCtorEq, Arc.e, Node.e, Pt.e, int1, f1, f6, bc19]

noncomputable def r14_Check (a0 : Plan) : Option (Int) := ((r14_limits a0).bind fun y1 => (if y1 = true then some 3 else ((r14_ids a0 false).bind fun y2 => ((r14_ascending y2).bind fun y3 => (if y3 = true then ((r14_ids a0 true).bind fun y4 => ((r14_ascending y4).bind fun y5 => (if y5 = true then ((r14_ascending a0.faces).bind fun y6 => (if y6 = true then ((r14_ranges a0).bind fun y7 => (if y7 = true then ((r14_twice a0).bind fun y8 => (if y8 = true then some 8 else ((r14_Check_L0 a0 0).bind (fun x1 => sumK x1 (fun _ => some 7) (fun _ => ((r14_Check_L1 a0 0).bind (fun x2 => sumK x2 (fun _ => some 12) (fun _ => ((r14_planar a0).bind fun y18 => (if y18 = true then some 0 else some 11)))))))))) else some 2)) else some 10)) else some 10))) else some 10)))))
theorem r14_Check_ok {a0 : Plan} {r : Int} (h : r14_Check a0 = some r) : callL prog cfg (famT r14_Check_fams) 34 [.agg [.r (.lst (List.map Node.e a0.nodes) none), .r (.lst (List.map Arc.e a0.arcs) none), .r (.lst (List.map int1 a0.faces) none)]] (E0 []) = some (I r, E0 [], none) := by
  refine callL_wpG cx34 (ax := [.agg [.r (.lst (List.map Node.e a0.nodes) none), .r (.lst (List.map Arc.e a0.arcs) none), .r (.lst (List.map int1 a0.faces) none)]]) rfl rfl ?_
  unfold r14_Check at h
  try dsimp only at h
  obtain ⟨y1, hy1, h⟩ := obind h
  have g1 : ∀ os, callX prog cfg (famT r14_Check_fams) 54 [.agg [.r (.lst (List.map Node.e a0.nodes) none), .r (.lst (List.map Arc.e a0.arcs) none), .r (.lst (List.map int1 a0.faces) none)]] (E0 os) = some (B y1, E0 os, none) := fun os => callX_fam rfl (famLook_hit rfl (r14_limits_val hy1))
  by_cases c1 : y1 = true
  · have bc1 : (y1) = true := id c1
    rw [if_pos c1] at h
    cases h
    simp only [retG, ↓askB_true, ↓askB_false, beq_self_eq_true, wz, Nat.reduceAdd, Nat.reduceSub, Nat.reduceMul, Nat.reduceBEq, Nat.reduceEqDiff, Nat.reduceLeDiff, Nat.reduceLT, reduceCtorEq, Arc.e, Node.e, Pt.e, int1, g1, bc1, x34, x34B]
  · have bc1 : (y1) = false := boolF c1
    rw [if_neg c1] at h
    obtain ⟨y2, hy2, h⟩ := obind h
    obtain ⟨v1, os1, g2, Av1, qos1, sbos1, kbos1, kaos1, kros1⟩ := callX_keep (P := prog) (cfg := cfg) (fams := r14_Check_fams) (f := 56) (args := [.agg [.r (.lst (List.map Node.e a0.nodes) none), .r (.lst (List.map Arc.e a0.arcs) none), .r (.lst (List.map int1 a0.faces) none)], B false]) (os := []) (os1 := []) int1_ok rfl (kvalSkip rfl <| kvalHit rfl (r14_ids_val hy2)) osok0
    have bv1 := Av1.rd.b
    obtain ⟨y3, hy3, h⟩ := obind h
    obtain ⟨os2, aos2, caos2, kaos2, qos2⟩ := Av1.rd.arg qos1
    have A1 := kaos2.own _ _ _ Av1
    have g3 : callX prog cfg (famT r14_Check_fams) 55 [v1] (E0 os1) = some (B y3, E0 os2, none) := callX_fam (argsT_cons aos2 rfl) (famLook_skip rfl <| famLook_skip rfl <| famLook_hit rfl (r14_ascending_val hy3))
    by_cases c2 : y3 = true
    · have bc2 : (y3) = true := id c2
      rw [if_pos c2] at h
      obtain ⟨y4, hy4, h⟩ := obind h
      obtain ⟨v2, os3, g4, Av2, qos3, sbos3, kbos3, kaos3, kros3⟩ := callX_keep (P := prog) (cfg := cfg) (fams := r14_Check_fams) (f := 56) (args := [.agg [.r (.lst (List.map Node.e a0.nodes) none), .r (.lst (List.map Arc.e a0.arcs) none), .r (.lst (List.map int1 a0.faces) none)], B true]) (os := os2) (os1 := os2) int1_ok rfl (kvalSkip rfl <| kvalHit rfl (r14_ids_val hy4)) qos2
      have bv2 := Av2.rd.b
      have A2 := kbos3 _ _ _ A1
      obtain ⟨y5, hy5, h⟩ := obind h
      obtain ⟨os4, aos4, caos4, kaos4, qos4⟩ := Av2.rd.arg qos3
      have A3 := kaos4.own _ _ _ A2.1
      have A4 := kaos4.own _ _ _ Av2
      have g5 : callX prog cfg (famT r14_Check_fams) 55 [v2] (E0 os3) = some (B y5, E0 os4, none) := callX_fam (argsT_cons aos4 rfl) (famLook_skip rfl <| famLook_skip rfl <| famLook_hit rfl (r14_ascending_val hy5))
      by_cases c3 : y5 = true
      · have bc3 : (y5) = true := id c3
        rw [if_pos c3] at h
        obtain ⟨y6, hy6, h⟩ := obind h
        have g6 : ∀ os, callX prog cfg (famT r14_Check_fams) 55 [.r (.lst (List.map int1 a0.faces) none)] (E0 os) = some (B y6, E0 os, none) := fun os => callX_fam rfl (famLook_skip rfl <| famLook_skip rfl <| famLook_hit rfl (r14_ascending_val hy6))
        by_cases c4 : y6 = true
        · have bc4 : (y6) = true := id c4
          rw [if_pos c4] at h
          obtain ⟨y7, hy7, h⟩ := obind h
          have g7 : ∀ os, callX prog cfg (famT r14_Check_fams) 57 [.agg [.r (.lst (List.map Node.e a0.nodes) none), .r (.lst (List.map Arc.e a0.arcs) none), .r (.lst (List.map int1 a0.faces) none)]] (E0 os) = some (B y7, E0 os, none) := fun os => callX_fam rfl (famLook_skip rfl <| famLook_skip rfl <| famLook_skip rfl <| famLook_hit rfl (r14_ranges_val hy7))
          by_cases c5 : y7 = true
          · have bc5 : (y7) = true := id c5
            rw [if_pos c5] at h
            obtain ⟨y8, hy8, h⟩ := obind h
            have g8 : ∀ os, callX prog cfg (famT r14_Check_fams) 58 [.agg [.r (.lst (List.map Node.e a0.nodes) none), .r (.lst (List.map Arc.e a0.arcs) none), .r (.lst (List.map int1 a0.faces) none)]] (E0 os) = some (B y8, E0 os, none) := fun os => callX_fam rfl (famLook_skip rfl <| famLook_skip rfl <| famLook_skip rfl <| famLook_skip rfl <| famLook_hit rfl (r14_twice_val hy8))
            by_cases c6 : y8 = true
            · have bc6 : (y8) = true := id c6
              rw [if_pos c6] at h
              cases h
              have hleak := leaks_0 os4 0
              simp only [retG, hleak, ↓askB_true, ↓askB_false, beq_self_eq_true, wz, Nat.reduceAdd, Nat.reduceSub, Nat.reduceMul, Nat.reduceBEq, Nat.reduceEqDiff, Nat.reduceLeDiff, Nat.reduceLT, reduceCtorEq, Arc.e, Node.e, Pt.e, int1, g1, bc1, g2, bv1, g3, bc2, g4, bv2, g5, bc3, g6, bc4, g7, bc5, g8, bc6, x34, x34B]
            · have bc6 : (y8) = false := boolF c6
              rw [if_neg c6] at h
              obtain ⟨x1, hx1, h⟩ := obind h
              simp only [↓askB_true, ↓askB_false, beq_self_eq_true, wz, Nat.reduceAdd, Nat.reduceSub, Nat.reduceMul, Nat.reduceBEq, Nat.reduceEqDiff, Nat.reduceLeDiff, Nat.reduceLT, reduceCtorEq, Arc.e, Node.e, Pt.e, int1, g1, bc1, g2, bv1, g3, bc2, g4, bv2, g5, bc3, g6, bc4, g7, bc5, g8, bc6, x34, x34B]
              refine r14_Check_L0_ok hx1 ?_ ?_
              · unfold r14_Check_L0R
                refine ⟨os4, rfl, qos4, ?_⟩
                simp only [↓askB_true, ↓askB_false, beq_self_eq_true, wz, Nat.reduceAdd, Nat.reduceSub, Nat.reduceMul, Nat.reduceBEq, Nat.reduceEqDiff, Nat.reduceLeDiff, Nat.reduceLT, reduceCtorEq, Arc.e, Node.e, Pt.e, int1, g1, bc1, g2, bv1, g3, bc2, g4, bv2, g5, bc3, g6, bc4, g7, bc5, g8, bc6, x34, x34B]
              intro tx f S hE
              rcases x1 with _u | _u
              · try dsimp only [sumK] at h
                obtain ⟨rfl, os8, rfl, qos8, f2⟩ := hE
                cases h
                have hleak := leaks_0 os8 0
                simp only [retG, hleak, ↓askB_true, ↓askB_false, beq_self_eq_true, wz, Nat.reduceAdd, Nat.reduceSub, Nat.reduceMul, Nat.reduceBEq, Nat.reduceEqDiff, Nat.reduceLeDiff, Nat.reduceLT, reduceCtorEq, Arc.e, Node.e, Pt.e, int1, g1, bc1, g2, bv1, g3, bc2, g4, bv2, g5, bc3, g6, bc4, g7, bc5, g8, bc6, f2]
              · try dsimp only [sumK] at h
                obtain ⟨rfl, os9, rfl, qos9, f1⟩ := hE
                obtain ⟨x2, hx2, h⟩ := obind h
                simp only [↓askB_true, ↓askB_false, beq_self_eq_true, wz, Nat.reduceAdd, Nat.reduceSub, Nat.reduceMul, Nat.reduceBEq, Nat.reduceEqDiff, Nat.reduceLeDiff, Nat.reduceLT, reduceCtorEq, Arc.e, Node.e, Pt.e, int1, g1, bc1, g2, bv1, g3, bc2, g4, bv2, g5, bc3, g6, bc4, g7, bc5, g8, bc6, f1]
                refine r14_Check_L1_ok hx2 ?_ ?_
                · unfold r14_Check_L1R
                  refine ⟨os9, rfl, qos9, ?_⟩
                  simp only [↓askB_true, ↓askB_false, beq_self_eq_true, wz, Nat.reduceAdd, Nat.reduceSub, Nat.reduceMul, Nat.reduceBEq, Nat.reduceEqDiff, Nat.reduceLeDiff, Nat.reduceLT, reduceCtorEq, Arc.e, Node.e, Pt.e, int1, g1, bc1, g2, bv1, g3, bc2, g4, bv2, g5, bc3, g6, bc4, g7, bc5, g8, bc6, f1]
                intro tx f S hE
                rcases x2 with _u | _u
                · try dsimp only [sumK] at h
                  obtain ⟨rfl, os13, rfl, qos13, f2⟩ := hE
                  cases h
                  have hleak := leaks_0 os13 0
                  simp only [retG, hleak, ↓askB_true, ↓askB_false, beq_self_eq_true, wz, Nat.reduceAdd, Nat.reduceSub, Nat.reduceMul, Nat.reduceBEq, Nat.reduceEqDiff, Nat.reduceLeDiff, Nat.reduceLT, reduceCtorEq, Arc.e, Node.e, Pt.e, int1, g1, bc1, g2, bv1, g3, bc2, g4, bv2, g5, bc3, g6, bc4, g7, bc5, g8, bc6, f2]
                · try dsimp only [sumK] at h
                  obtain ⟨rfl, os14, rfl, qos14, f1⟩ := hE
                  obtain ⟨y18, hy18, h⟩ := obind h
                  have g18 : ∀ os, callX prog cfg (famT r14_Check_fams) 61 [.agg [.r (.lst (List.map Node.e a0.nodes) none), .r (.lst (List.map Arc.e a0.arcs) none), .r (.lst (List.map int1 a0.faces) none)]] (E0 os) = some (B y18, E0 os, none) := fun os => callX_fam rfl (famLook_skip rfl <| famLook_skip rfl <| famLook_skip rfl <| famLook_skip rfl <| famLook_skip rfl <| famLook_skip rfl <| famLook_skip rfl <| famLook_hit rfl (r14_planar_val hy18))
                  by_cases c22 : y18 = true
                  · have bc22 : (y18) = true := id c22
                    rw [if_pos c22] at h
                    cases h
                    have hleak := leaks_0 os14 0
                    simp only [retG, hleak, ↓askB_true, ↓askB_false, beq_self_eq_true, wz, Nat.reduceAdd, Nat.reduceSub, Nat.reduceMul, Nat.reduceBEq, Nat.reduceEqDiff, Nat.reduceLeDiff, Nat.reduceLT, reduceCtorEq, Arc.e, Node.e, Pt.e, int1, g1, bc1, g2, bv1, g3, bc2, g4, bv2, g5, bc3, g6, bc4, g7, bc5, g8, bc6, f1, g18, bc22]
                  · have bc22 : (y18) = false := boolF c22
                    rw [if_neg c22] at h
                    cases h
                    have hleak := leaks_0 os14 0
                    simp only [retG, hleak, ↓askB_true, ↓askB_false, beq_self_eq_true, wz, Nat.reduceAdd, Nat.reduceSub, Nat.reduceMul, Nat.reduceBEq, Nat.reduceEqDiff, Nat.reduceLeDiff, Nat.reduceLT, reduceCtorEq, Arc.e, Node.e, Pt.e, int1, g1, bc1, g2, bv1, g3, bc2, g4, bv2, g5, bc3, g6, bc4, g7, bc5, g8, bc6, f1, g18, bc22]
          · have bc5 : (y7) = false := boolF c5
            rw [if_neg c5] at h
            cases h
            have hleak := leaks_0 os4 0
            simp only [retG, hleak, ↓askB_true, ↓askB_false, beq_self_eq_true, wz, Nat.reduceAdd, Nat.reduceSub, Nat.reduceMul, Nat.reduceBEq, Nat.reduceEqDiff, Nat.reduceLeDiff, Nat.reduceLT, reduceCtorEq, Arc.e, Node.e, Pt.e, int1, g1, bc1, g2, bv1, g3, bc2, g4, bv2, g5, bc3, g6, bc4, g7, bc5, x34, x34B]
        · have bc4 : (y6) = false := boolF c4
          rw [if_neg c4] at h
          cases h
          have hleak := leaks_0 os4 0
          simp only [retG, hleak, ↓askB_true, ↓askB_false, beq_self_eq_true, wz, Nat.reduceAdd, Nat.reduceSub, Nat.reduceMul, Nat.reduceBEq, Nat.reduceEqDiff, Nat.reduceLeDiff, Nat.reduceLT, reduceCtorEq, Arc.e, Node.e, Pt.e, int1, g1, bc1, g2, bv1, g3, bc2, g4, bv2, g5, bc3, g6, bc4, x34, x34B]
      · have bc3 : (y5) = false := boolF c3
        rw [if_neg c3] at h
        cases h
        have hleak := leaks_0 os4 0
        simp only [retG, hleak, ↓askB_true, ↓askB_false, beq_self_eq_true, wz, Nat.reduceAdd, Nat.reduceSub, Nat.reduceMul, Nat.reduceBEq, Nat.reduceEqDiff, Nat.reduceLeDiff, Nat.reduceLT, reduceCtorEq, Arc.e, Node.e, Pt.e, int1, g1, bc1, g2, bv1, g3, bc2, g4, bv2, g5, bc3, x34, x34B]
    · have bc2 : (y3) = false := boolF c2
      rw [if_neg c2] at h
      cases h
      have hleak := leaks_0 os2 0
      simp only [retG, hleak, ↓askB_true, ↓askB_false, beq_self_eq_true, wz, Nat.reduceAdd, Nat.reduceSub, Nat.reduceMul, Nat.reduceBEq, Nat.reduceEqDiff, Nat.reduceLeDiff, Nat.reduceLT, reduceCtorEq, Arc.e, Node.e, Pt.e, int1, g1, bc1, g2, bv1, g3, bc2, x34, x34B]

noncomputable def r14_Check_fam : Fam := famC prog cfg (famT r14_Check_fams) 34
theorem r14_Check_val {a0 : Plan} {r : Int} (h : r14_Check a0 = some r) : r14_Check_fam.val [.agg [.r (.lst (List.map Node.e a0.nodes) none), .r (.lst (List.map Arc.e a0.arcs) none), .r (.lst (List.map int1 a0.faces) none)]] = some (.flat (I r)) := famC_flat (r14_Check_ok h) rfl rfl
def r14_Check_At (fams : List Fam) : Prop := ∀  {a0 : Plan} {r : Int} {xs_ : List TV} {os os1 : List TO}, r14_Check a0 = some r → argsT false (E0 os) xs_ = some ([.agg [.r (.lst (List.map Node.e a0.nodes) none), .r (.lst (List.map Arc.e a0.arcs) none), .r (.lst (List.map int1 a0.faces) none)]], E0 os1) → callX prog cfg (famT fams) 34 xs_ (E0 os) = some (I r, E0 os1, none)
theorem r14_Check_goods : ∀ x, x ∈ r14_Check_fams → x.Good prog := (goodsC r14_limits_good (goodsC r14_ids_good (goodsC r14_ascending_good (goodsC r14_ranges_good (goodsC r14_twice_good (goodsC r14_line_good (goodsC r14_Face_good (goodsC r14_planar_good goods0))))))))
theorem r14_Check_good : r14_Check_fam.Good prog := famC_good sound r14_Check_goods
/- 15: mapsheets/mapsheetslaw15.good -/
noncomputable def law15_good_fams : List Fam := [r15_Small_fam, r14_Check_fam]
noncomputable def law15_good (a0 : Plan) : Option (Bool) := ((r15_Small a0).bind fun y1 => (if y1 = true then ((r14_Check a0).bind fun y2 => some (y2 == 0)) else some false))
theorem law15_good_ok {a0 : Plan} {r : Bool} (h : law15_good a0 = some r) : callL prog cfg (famT law15_good_fams) 15 [.agg [.r (.lst (List.map Node.e a0.nodes) none), .r (.lst (List.map Arc.e a0.arcs) none), .r (.lst (List.map int1 a0.faces) none)]] (E0 []) = some (B r, E0 [], none) := by
  refine callL_wpG cx15 (ax := [.agg [.r (.lst (List.map Node.e a0.nodes) none), .r (.lst (List.map Arc.e a0.arcs) none), .r (.lst (List.map int1 a0.faces) none)]]) rfl rfl ?_
  unfold law15_good at h
  try dsimp only at h
  obtain ⟨y1, hy1, h⟩ := obind h
  have g1 : ∀ os, callX prog cfg (famT law15_good_fams) 21 [.agg [.r (.lst (List.map Node.e a0.nodes) none), .r (.lst (List.map Arc.e a0.arcs) none), .r (.lst (List.map int1 a0.faces) none)]] (E0 os) = some (B y1, E0 os, none) := fun os => callX_fam rfl (famLook_hit rfl (r15_Small_val hy1))
  by_cases c1 : y1 = true
  · have bc1 : (y1) = true := id c1
    rw [if_pos c1] at h
    obtain ⟨y2, hy2, h⟩ := obind h
    have g2 : ∀ os, callX prog cfg (famT law15_good_fams) 34 [.agg [.r (.lst (List.map Node.e a0.nodes) none), .r (.lst (List.map Arc.e a0.arcs) none), .r (.lst (List.map int1 a0.faces) none)]] (E0 os) = some (I y2, E0 os, none) := fun os => callX_fam rfl (famLook_skip rfl <| famLook_hit rfl (r14_Check_val hy2))
    cases h
    simp only [retG, ↓askB_true, ↓askB_false, beq_self_eq_true, wz, Nat.reduceAdd, Nat.reduceSub, Nat.reduceMul, Nat.reduceBEq, Nat.reduceEqDiff, Nat.reduceLeDiff, Nat.reduceLT, reduceCtorEq, Arc.e, Node.e, Pt.e, int1, g1, bc1, g2, x15, x15B]
  · have bc1 : (y1) = false := boolF c1
    rw [if_neg c1] at h
    cases h
    simp only [retG, ↓askB_true, ↓askB_false, beq_self_eq_true, wz, Nat.reduceAdd, Nat.reduceSub, Nat.reduceMul, Nat.reduceBEq, Nat.reduceEqDiff, Nat.reduceLeDiff, Nat.reduceLT, reduceCtorEq, Arc.e, Node.e, Pt.e, int1, g1, bc1, x15, x15B]

noncomputable def law15_good_fam : Fam := famC prog cfg (famT law15_good_fams) 15
theorem law15_good_val {a0 : Plan} {r : Bool} (h : law15_good a0 = some r) : law15_good_fam.val [.agg [.r (.lst (List.map Node.e a0.nodes) none), .r (.lst (List.map Arc.e a0.arcs) none), .r (.lst (List.map int1 a0.faces) none)]] = some (.flat (B r)) := famC_flat (law15_good_ok h) rfl rfl
def law15_good_At (fams : List Fam) : Prop := ∀  {a0 : Plan} {r : Bool} {xs_ : List TV} {os os1 : List TO}, law15_good a0 = some r → argsT false (E0 os) xs_ = some ([.agg [.r (.lst (List.map Node.e a0.nodes) none), .r (.lst (List.map Arc.e a0.arcs) none), .r (.lst (List.map int1 a0.faces) none)]], E0 os1) → callX prog cfg (famT fams) 15 xs_ (E0 os) = some (B r, E0 os1, none)
theorem law15_good_goods : ∀ x, x ∈ law15_good_fams → x.Good prog := (goodsC r15_Small_good (goodsC r14_Check_good goods0))
theorem law15_good_good : law15_good_fam.Good prog := famC_good sound law15_good_goods
/- 92: slices.IndexFunc[[]mapsheets/api.Node,mapsheets/api.Node] (at any store) -/
def sl_IndexFunc_Node_L0b (p1 : (Node → Option Bool)) (a0 : List Node) : Int → Option ((Int) ⊕ ((Int) ⊕ (Unit))) := fun i3 => (if i3 < ((a0.length : Int)) then ((at_ a0 i3).bind fun e3 => ((p1 e3).bind fun y3 => (if y3 = true then some (.inr (Sum.inl i3)) else some (.inl (w64 (i3 + 1)))))) else some (.inr (Sum.inr ())))
def sl_IndexFunc_Node_L0R (os : List TO) (v0_ : TV) (g1 : Nat) (k1 : List TV) (a0 : List Node) : Int → Fr → TS → Prop := fun i3 f S => S = E0 os ∧ f 0 = v0_ ∧ f 1 = .fn g1 k1 ∧ f 7 = I ((a0.length : Int)) ∧ f 8 = I i3
def sl_IndexFunc_Node_L0E (os : List TO) (v0_ : TV) (g1 : Nat) (k1 : List TV) (a0 : List Node) : ((Int) ⊕ (Unit)) → TX → Fr → TS → Prop
  | (Sum.inl i5), tx, f, S => tx = TX.ret ∧ S = E0 os ∧ f 4 = I i5
  | (Sum.inr ()), tx, f, S => tx = TX.exit 0 ∧ S = E0 os
noncomputable def sl_IndexFunc_Node_L0 (p1 : (Node → Option Bool)) (a0 : List Node) (s : Int) : Option ((Int) ⊕ (Unit)) := loopO (sl_IndexFunc_Node_L0b p1 a0) s
theorem sl_IndexFunc_Node_L0_ok {fams : List Fam} {os : List TO} (q : OsOk os) {a0 : List Node} {p1 : (Node → Option Bool)} {v0_ : TV} {g1 : Nat} {k1 : List TV} (A0 : Rd os 3 v0_ (List.map Node.e a0)) (hp1 : ∀ {x0 : Node} {r : Bool}, p1 x0 = some r → callX prog cfg (famT fams) g1 (.agg [I x0.id, I x0.pt.x, I x0.pt.y] :: k1) (E0 os) = some (B r, E0 os, none)) {s : Int} {r : (Int) ⊕ (Unit)} {Q : TX → Fr → TS → Prop} (h : sl_IndexFunc_Node_L0 p1 a0 s = some r) {f : Fr} {S : TS} (hR : sl_IndexFunc_Node_L0R os v0_ g1 k1 a0 s f S) (hQ : ∀ tx f S, sl_IndexFunc_Node_L0E os v0_ g1 k1 a0 r tx f S → Q tx f S) : wp prog [] (callX prog cfg (famT fams)) (.loop x92L0) Q f S := by
  refine wp_loopO x92L0.eq_1 ?_ h hR hQ
  clear hQ hR h
  intro s x f S h hR
  revert h hR; revert s; intro i3 h hR
  obtain ⟨rfl, f0, f1, f7, f8⟩ := hR
  unfold sl_IndexFunc_Node_L0b at h
  try dsimp only at h
  by_cases c8 : i3 < ((a0.length : Int))
  · have bc8 : (decide (i3 < ((a0.length : Int)))) = true := decT c8
    rw [if_pos c8] at h
    obtain ⟨e3, he3, h⟩ := obind h
    obtain ⟨p3, w5, hp3, fw5, sw5, kw5, Ep3⟩ := A0.idx he3 rfl
    have ow5 := lowEk_out kw5
    have bp3 := Ep3.b
    obtain ⟨w6, hw6, fw6, sw6, kw6⟩ := Ep3.load (n := 3) (ag := true) (w := .agg [I e3.id, I e3.pt.x, I e3.pt.y]) rfl
    have ow6 := lowEk_out kw6
    obtain ⟨y3, hy3, h⟩ := obind h
    have g3 : callX prog cfg (famT fams) g1 (.agg [I e3.id, I e3.pt.x, I e3.pt.y] :: k1) (E0 os) = some (B y3, E0 os, none) := hp1 hy3
    by_cases c9 : y3 = true
    · have bc9 : (y3) = true := id c9
      rw [if_pos c9] at h
      cases h
      simp only [stepQ_exit, stepQ_ret, sl_IndexFunc_Node_L0E, ↓askB_true, ↓askB_false, beq_self_eq_true, wz, Nat.reduceAdd, Nat.reduceSub, Nat.reduceMul, Nat.reduceBEq, Nat.reduceEqDiff, Nat.reduceLeDiff, Nat.reduceLT, reduceCtorEq, x92S0, Node.e, A0.b, f0, f1, f7, f8, bc8, hp3, fw5, sw5, bp3, ow5, hw6, fw6, sw6, ow6, g3, bc9]
    · have bc9 : (y3) = false := boolF c9
      rw [if_neg c9] at h
      cases h
      simp only [stepQ_normal, sl_IndexFunc_Node_L0R, ↓askB_true, ↓askB_false, beq_self_eq_true, wz, Nat.reduceAdd, Nat.reduceSub, Nat.reduceMul, Nat.reduceBEq, Nat.reduceEqDiff, Nat.reduceLeDiff, Nat.reduceLT, reduceCtorEq, x92S0, Node.e, A0.b, f0, f1, f7, f8, bc8, hp3, fw5, sw5, bp3, ow5, hw6, fw6, sw6, ow6, g3, bc9]
  · have bc8 : (decide (i3 < ((a0.length : Int)))) = false := decF c8
    rw [if_neg c8] at h
    cases h
    simp only [stepQ_exit, stepQ_ret, sl_IndexFunc_Node_L0E, ↓askB_true, ↓askB_false, beq_self_eq_true, wz, Nat.reduceAdd, Nat.reduceSub, Nat.reduceMul, Nat.reduceBEq, Nat.reduceEqDiff, Nat.reduceLeDiff, Nat.reduceLT, reduceCtorEq, x92S0, Node.e, A0.b, f0, f1, f7, f8, bc8]

noncomputable def sl_IndexFunc_Node (a0 : List Node) (p1 : (Node → Option Bool)) : Option (Int) := ((sl_IndexFunc_Node_L0 p1 a0 0).bind (fun x1 => sumK x1 (fun i7 => some i7) (fun _ => some ((-1)))))
theorem sl_IndexFunc_Node_okG {fams : List Fam} {os : List TO} (q : OsOk os) {a0 : List Node} {p1 : (Node → Option Bool)} {v0_ : TV} {g1 : Nat} {k1 : List TV} (A0 : Rd os 3 v0_ (List.map Node.e a0)) (hp1 : ∀ {x0 : Node} {r : Bool}, p1 x0 = some r → callX prog cfg (famT fams) g1 (.agg [I x0.id, I x0.pt.x, I x0.pt.y] :: k1) (E0 os) = some (B r, E0 os, none)) {r : Int} (h : sl_IndexFunc_Node a0 p1 = some r) : callL prog cfg (famT fams) 92 [v0_, .fn g1 k1] (E0 os) = some (I r, E0 os, none) := by
  refine callL_wpGb cx92 (ax := [v0_, .fn g1 k1]) rfl (argsTb_cons A0.argB (argsTb_cons rfl rfl)) ?_
  unfold sl_IndexFunc_Node at h
  try dsimp only at h
  have n1 := A0.len
  obtain ⟨x1, hx1, h⟩ := obind h
  simp only [↓askB_true, ↓askB_false, beq_self_eq_true, wz, Nat.reduceAdd, Nat.reduceSub, Nat.reduceMul, Nat.reduceBEq, Nat.reduceEqDiff, Nat.reduceLeDiff, Nat.reduceLT, reduceCtorEq, x92S0, Node.e, A0.b, n1, x92, x92B]
  refine sl_IndexFunc_Node_L0_ok q A0 hp1 hx1 ?_ ?_
  · simp only [sl_IndexFunc_Node_L0R, ↓askB_true, ↓askB_false, beq_self_eq_true, wz, Nat.reduceAdd, Nat.reduceSub, Nat.reduceMul, Nat.reduceBEq, Nat.reduceEqDiff, Nat.reduceLeDiff, Nat.reduceLT, reduceCtorEq, x92S0, Node.e, A0.b, n1, x92, x92B]
  intro tx f S hE
  rcases x1 with i7 | _u
  · try dsimp only [sumK] at h
    obtain ⟨rfl, rfl, f4⟩ := hE
    cases h
    have hleak := q.leak
    simp only [retGb, hleak, ↓askB_true, ↓askB_false, beq_self_eq_true, wz, Nat.reduceAdd, Nat.reduceSub, Nat.reduceMul, Nat.reduceBEq, Nat.reduceEqDiff, Nat.reduceLeDiff, Nat.reduceLT, reduceCtorEq, x92S0, Node.e, A0.b, A0.b, n1, f4]
  · try dsimp only [sumK] at h
    obtain ⟨rfl, rfl⟩ := hE
    cases h
    have hleak := q.leak
    simp only [retGb, hleak, ↓askB_true, ↓askB_false, beq_self_eq_true, wz, Nat.reduceAdd, Nat.reduceSub, Nat.reduceMul, Nat.reduceBEq, Nat.reduceEqDiff, Nat.reduceLeDiff, Nat.reduceLT, reduceCtorEq, x92S0, Node.e, A0.b, A0.b, n1]

/- 93: mapsheets/plan.Node$1 (at any store) -/
noncomputable def plan_Node_c1 (a0 : Node) (c0_ : Int) : Option (Bool) := some (a0.id == c0_)
theorem plan_Node_c1_okG {fams : List Fam} {os : List TO} (q : OsOk os) {a0 : Node} {c0_ : Int} {o0 : Nat} (B0 : os[o0]? = some (TO.box [I c0_])) {r : Bool} (h : plan_Node_c1 a0 c0_ = some r) : callL prog cfg (famT fams) 93 [.agg [I a0.id, I a0.pt.x, I a0.pt.y], .ptr o0 0] (E0 os) = some (B r, E0 os, none) := by
  refine callL_wpGb cx93 (ax := [.agg [I a0.id, I a0.pt.x, I a0.pt.y], .ptr o0 0]) rfl (argsTb_cons rfl (argsTb_cons rfl rfl)) ?_
  unfold plan_Node_c1 at h
  try dsimp only at h
  cases h
  have hleak := q.leak
  simp only [retGb, hleak, ↓askB_true, ↓askB_false, beq_self_eq_true, wz, Nat.reduceAdd, Nat.reduceSub, Nat.reduceMul, Nat.reduceBEq, Nat.reduceEqDiff, Nat.reduceLeDiff, Nat.reduceLT, reduceCtorEq, B0, x93, x93B]

/- 62: mapsheets/plan.Node -/
noncomputable def plan_Node_fams : List Fam := []
noncomputable def plan_Node (a0 : Plan) (a1 : Int) : Option (Node × Bool) := ((sl_IndexFunc_Node a0.nodes (fun x0 => plan_Node_c1 x0 a1)).bind fun y1 => (if y1 < 0 then some ((Node.mk 0 ((Pt.mk 0 0))), false) else ((at_ a0.nodes y1).bind fun e1 => some (e1, true))))
theorem plan_Node_ok {a0 : Plan} {a1 : Int} {r : Node × Bool} (h : plan_Node a0 a1 = some r) : callL prog cfg (famT plan_Node_fams) 62 [.agg [.r (.lst (List.map Node.e a0.nodes) none), .r (.lst (List.map Arc.e a0.arcs) none), .r (.lst (List.map int1 a0.faces) none)], I a1] (E0 []) = some (.tup [.agg [I r.1.id, I r.1.pt.x, I r.1.pt.y], B r.2], E0 [], none) := by
  refine callL_wpG cx62 (ax := [.agg [.r (.lst (List.map Node.e a0.nodes) none), .r (.lst (List.map Arc.e a0.arcs) none), .r (.lst (List.map int1 a0.faces) none)], I a1]) rfl rfl ?_
  unfold plan_Node at h
  try dsimp only at h
  obtain ⟨y1, hy1, h⟩ := obind h
  have g1 : callX prog cfg (famT plan_Node_fams) 92 [.r (.lst (List.map Node.e a0.nodes) none), .fn 93 [.ptr 0 0]] (E0 [TO.box [I a1]]) = some (I y1, E0 [TO.box [I a1]], none) := (callX_none (fun _ => by rfl)).trans (sl_IndexFunc_Node_okG (OsOk.box osok0 rfl (by simp only [eqTVs, eqTV, eqRV_int, eqRV_bool, Bool.and_self])) (Rd.lst _ _ (allLen_map Node.eok.len _)) (fun  h => (callX_none (fun _ => by rfl)).trans (plan_Node_c1_okG (OsOk.box osok0 rfl (by simp only [eqTVs, eqTV, eqRV_int, eqRV_bool, Bool.and_self])) (rfl) h)) hy1)
  by_cases c1 : y1 < 0
  · have bc1 : (decide (y1 < 0)) = true := decT c1
    rw [if_pos c1] at h
    cases h
    have hleak := leaks_0 [TO.box [I a1]] 0
    simp only [retG, hleak, ↓askB_true, ↓askB_false, beq_self_eq_true, wz, Nat.reduceAdd, Nat.reduceSub, Nat.reduceMul, Nat.reduceBEq, Nat.reduceEqDiff, Nat.reduceLeDiff, Nat.reduceLT, reduceCtorEq, Arc.e, Node.e, Pt.e, int1, g1, bc1, x62, x62B]
  · have bc1 : (decide (y1 < 0)) = false := decF c1
    rw [if_neg c1] at h
    obtain ⟨e1, he1, h⟩ := obind h
    have i1 := indexSl_at (enc := Node.e) he1 (sz := 3) rfl
    cases h
    have hleak := leaks_0 [TO.box [I a1]] 0
    simp only [retG, hleak, ↓askB_true, ↓askB_false, beq_self_eq_true, wz, Nat.reduceAdd, Nat.reduceSub, Nat.reduceMul, Nat.reduceBEq, Nat.reduceEqDiff, Nat.reduceLeDiff, Nat.reduceLT, reduceCtorEq, Arc.e, Node.e, Pt.e, int1, g1, bc1, i1, x62, x62B]

noncomputable def plan_Node_fam : Fam := famC prog cfg (famT plan_Node_fams) 62
theorem plan_Node_val {a0 : Plan} {a1 : Int} {r : Node × Bool} (h : plan_Node a0 a1 = some r) : plan_Node_fam.val [.agg [.r (.lst (List.map Node.e a0.nodes) none), .r (.lst (List.map Arc.e a0.arcs) none), .r (.lst (List.map int1 a0.faces) none)], I a1] = some (.flat (.tup [.agg [I r.1.id, I r.1.pt.x, I r.1.pt.y], B r.2])) := famC_flat (plan_Node_ok h) rfl rfl
def plan_Node_At (fams : List Fam) : Prop := ∀  {a0 : Plan} {a1 : Int} {r : Node × Bool} {xs_ : List TV} {os os1 : List TO}, plan_Node a0 a1 = some r → argsT false (E0 os) xs_ = some ([.agg [.r (.lst (List.map Node.e a0.nodes) none), .r (.lst (List.map Arc.e a0.arcs) none), .r (.lst (List.map int1 a0.faces) none)], I a1], E0 os1) → callX prog cfg (famT fams) 62 xs_ (E0 os) = some (.tup [.agg [I r.1.id, I r.1.pt.x, I r.1.pt.y], B r.2], E0 os1, none)
theorem plan_Node_goods : ∀ x, x ∈ plan_Node_fams → x.Good prog := goods0
theorem plan_Node_good : plan_Node_fam.Good prog := famC_good sound plan_Node_goods
/- 52: slices.IndexFunc[[]mapsheets/api.Arc,mapsheets/api.Arc] (at any store) -/
def sl_IndexFunc_Arc_L0b (p1 : (Arc → Option Bool)) (a0 : List Arc) : Int → Option ((Int) ⊕ ((Int) ⊕ (Unit))) := fun i3 => (if i3 < ((a0.length : Int)) then ((at_ a0 i3).bind fun e3 => ((p1 e3).bind fun y3 => (if y3 = true then some (.inr (Sum.inl i3)) else some (.inl (w64 (i3 + 1)))))) else some (.inr (Sum.inr ())))
def sl_IndexFunc_Arc_L0R (os : List TO) (v0_ : TV) (g1 : Nat) (k1 : List TV) (a0 : List Arc) : Int → Fr → TS → Prop := fun i3 f S => S = E0 os ∧ f 0 = v0_ ∧ f 1 = .fn g1 k1 ∧ f 7 = I ((a0.length : Int)) ∧ f 8 = I i3
def sl_IndexFunc_Arc_L0E (os : List TO) (v0_ : TV) (g1 : Nat) (k1 : List TV) (a0 : List Arc) : ((Int) ⊕ (Unit)) → TX → Fr → TS → Prop
  | (Sum.inl i5), tx, f, S => tx = TX.ret ∧ S = E0 os ∧ f 4 = I i5
  | (Sum.inr ()), tx, f, S => tx = TX.exit 0 ∧ S = E0 os
noncomputable def sl_IndexFunc_Arc_L0 (p1 : (Arc → Option Bool)) (a0 : List Arc) (s : Int) : Option ((Int) ⊕ (Unit)) := loopO (sl_IndexFunc_Arc_L0b p1 a0) s
theorem sl_IndexFunc_Arc_L0_ok {fams : List Fam} {os : List TO} (q : OsOk os) {a0 : List Arc} {p1 : (Arc → Option Bool)} {v0_ : TV} {g1 : Nat} {k1 : List TV} (A0 : Rd os 6 v0_ (List.map Arc.e a0)) (hp1 : ∀ {x0 : Arc} {r : Bool}, p1 x0 = some r → callX prog cfg (famT fams) g1 (.agg [I x0.id, I x0.frm, I x0.to, .r (.lst (List.map Pt.e x0.via) none), I x0.left, I x0.right] :: k1) (E0 os) = some (B r, E0 os, none)) {s : Int} {r : (Int) ⊕ (Unit)} {Q : TX → Fr → TS → Prop} (h : sl_IndexFunc_Arc_L0 p1 a0 s = some r) {f : Fr} {S : TS} (hR : sl_IndexFunc_Arc_L0R os v0_ g1 k1 a0 s f S) (hQ : ∀ tx f S, sl_IndexFunc_Arc_L0E os v0_ g1 k1 a0 r tx f S → Q tx f S) : wp prog [] (callX prog cfg (famT fams)) (.loop x52L0) Q f S := by
  refine wp_loopO x52L0.eq_1 ?_ h hR hQ
  clear hQ hR h
  intro s x f S h hR
  revert h hR; revert s; intro i3 h hR
  obtain ⟨rfl, f0, f1, f7, f8⟩ := hR
  unfold sl_IndexFunc_Arc_L0b at h
  try dsimp only at h
  by_cases c8 : i3 < ((a0.length : Int))
  · have bc8 : (decide (i3 < ((a0.length : Int)))) = true := decT c8
    rw [if_pos c8] at h
    obtain ⟨e3, he3, h⟩ := obind h
    obtain ⟨p3, w5, hp3, fw5, sw5, kw5, Ep3⟩ := A0.idx he3 rfl
    have ow5 := lowEk_out kw5
    have bp3 := Ep3.b
    obtain ⟨w6, hw6, fw6, sw6, kw6⟩ := Ep3.load (n := 6) (ag := true) (w := .agg [I e3.id, I e3.frm, I e3.to, .r (.lst (List.map Pt.e e3.via) none), I e3.left, I e3.right]) rfl
    have ow6 := lowEk_out kw6
    obtain ⟨y3, hy3, h⟩ := obind h
    have g3 : callX prog cfg (famT fams) g1 (.agg [I e3.id, I e3.frm, I e3.to, .r (.lst (List.map Pt.e e3.via) none), I e3.left, I e3.right] :: k1) (E0 os) = some (B y3, E0 os, none) := hp1 hy3
    by_cases c9 : y3 = true
    · have bc9 : (y3) = true := id c9
      rw [if_pos c9] at h
      cases h
      simp only [stepQ_exit, stepQ_ret, sl_IndexFunc_Arc_L0E, ↓askB_true, ↓askB_false, beq_self_eq_true, wz, Nat.reduceAdd, Nat.reduceSub, Nat.reduceMul, Nat.reduceBEq, Nat.reduceEqDiff, Nat.reduceLeDiff, Nat.reduceLT, reduceCtorEq, x52S0, Arc.e, Pt.e, A0.b, f0, f1, f7, f8, bc8, hp3, fw5, sw5, bp3, ow5, hw6, fw6, sw6, ow6, g3, bc9]
    · have bc9 : (y3) = false := boolF c9
      rw [if_neg c9] at h
      cases h
      simp only [stepQ_normal, sl_IndexFunc_Arc_L0R, ↓askB_true, ↓askB_false, beq_self_eq_true, wz, Nat.reduceAdd, Nat.reduceSub, Nat.reduceMul, Nat.reduceBEq, Nat.reduceEqDiff, Nat.reduceLeDiff, Nat.reduceLT, reduceCtorEq, x52S0, Arc.e, Pt.e, A0.b, f0, f1, f7, f8, bc8, hp3, fw5, sw5, bp3, ow5, hw6, fw6, sw6, ow6, g3, bc9]
  · have bc8 : (decide (i3 < ((a0.length : Int)))) = false := decF c8
    rw [if_neg c8] at h
    cases h
    simp only [stepQ_exit, stepQ_ret, sl_IndexFunc_Arc_L0E, ↓askB_true, ↓askB_false, beq_self_eq_true, wz, Nat.reduceAdd, Nat.reduceSub, Nat.reduceMul, Nat.reduceBEq, Nat.reduceEqDiff, Nat.reduceLeDiff, Nat.reduceLT, reduceCtorEq, x52S0, Arc.e, Pt.e, A0.b, f0, f1, f7, f8, bc8]

noncomputable def sl_IndexFunc_Arc (a0 : List Arc) (p1 : (Arc → Option Bool)) : Option (Int) := ((sl_IndexFunc_Arc_L0 p1 a0 0).bind (fun x1 => sumK x1 (fun i7 => some i7) (fun _ => some ((-1)))))
theorem sl_IndexFunc_Arc_okG {fams : List Fam} {os : List TO} (q : OsOk os) {a0 : List Arc} {p1 : (Arc → Option Bool)} {v0_ : TV} {g1 : Nat} {k1 : List TV} (A0 : Rd os 6 v0_ (List.map Arc.e a0)) (hp1 : ∀ {x0 : Arc} {r : Bool}, p1 x0 = some r → callX prog cfg (famT fams) g1 (.agg [I x0.id, I x0.frm, I x0.to, .r (.lst (List.map Pt.e x0.via) none), I x0.left, I x0.right] :: k1) (E0 os) = some (B r, E0 os, none)) {r : Int} (h : sl_IndexFunc_Arc a0 p1 = some r) : callL prog cfg (famT fams) 52 [v0_, .fn g1 k1] (E0 os) = some (I r, E0 os, none) := by
  refine callL_wpGb cx52 (ax := [v0_, .fn g1 k1]) rfl (argsTb_cons A0.argB (argsTb_cons rfl rfl)) ?_
  unfold sl_IndexFunc_Arc at h
  try dsimp only at h
  have n1 := A0.len
  obtain ⟨x1, hx1, h⟩ := obind h
  simp only [↓askB_true, ↓askB_false, beq_self_eq_true, wz, Nat.reduceAdd, Nat.reduceSub, Nat.reduceMul, Nat.reduceBEq, Nat.reduceEqDiff, Nat.reduceLeDiff, Nat.reduceLT, reduceCtorEq, x52S0, Arc.e, Pt.e, A0.b, n1, x52, x52B]
  refine sl_IndexFunc_Arc_L0_ok q A0 hp1 hx1 ?_ ?_
  · simp only [sl_IndexFunc_Arc_L0R, ↓askB_true, ↓askB_false, beq_self_eq_true, wz, Nat.reduceAdd, Nat.reduceSub, Nat.reduceMul, Nat.reduceBEq, Nat.reduceEqDiff, Nat.reduceLeDiff, Nat.reduceLT, reduceCtorEq, x52S0, Arc.e, Pt.e, A0.b, n1, x52, x52B]
  intro tx f S hE
  rcases x1 with i7 | _u
  · try dsimp only [sumK] at h
    obtain ⟨rfl, rfl, f4⟩ := hE
    cases h
    have hleak := q.leak
    simp only [retGb, hleak, ↓askB_true, ↓askB_false, beq_self_eq_true, wz, Nat.reduceAdd, Nat.reduceSub, Nat.reduceMul, Nat.reduceBEq, Nat.reduceEqDiff, Nat.reduceLeDiff, Nat.reduceLT, reduceCtorEq, x52S0, Arc.e, Pt.e, A0.b, A0.b, n1, f4]
  · try dsimp only [sumK] at h
    obtain ⟨rfl, rfl⟩ := hE
    cases h
    have hleak := q.leak
    simp only [retGb, hleak, ↓askB_true, ↓askB_false, beq_self_eq_true, wz, Nat.reduceAdd, Nat.reduceSub, Nat.reduceMul, Nat.reduceBEq, Nat.reduceEqDiff, Nat.reduceLeDiff, Nat.reduceLT, reduceCtorEq, x52S0, Arc.e, Pt.e, A0.b, A0.b, n1]

/- 125: mapsheets/plan.Arc$1 (at any store) -/
noncomputable def plan_Arc_c1 (a0 : Arc) (c0_ : Int) : Option (Bool) := some (a0.id == c0_)
theorem plan_Arc_c1_okG {fams : List Fam} {os : List TO} (q : OsOk os) {a0 : Arc} {c0_ : Int} {o0 : Nat} (B0 : os[o0]? = some (TO.box [I c0_])) {r : Bool} (h : plan_Arc_c1 a0 c0_ = some r) : callL prog cfg (famT fams) 125 [.agg [I a0.id, I a0.frm, I a0.to, .r (.lst (List.map Pt.e a0.via) none), I a0.left, I a0.right], .ptr o0 0] (E0 os) = some (B r, E0 os, none) := by
  refine callL_wpGb cx125 (ax := [.agg [I a0.id, I a0.frm, I a0.to, .r (.lst (List.map Pt.e a0.via) none), I a0.left, I a0.right], .ptr o0 0]) rfl (argsTb_cons rfl (argsTb_cons rfl rfl)) ?_
  unfold plan_Arc_c1 at h
  try dsimp only at h
  cases h
  have hleak := q.leak
  simp only [retGb, hleak, ↓askB_true, ↓askB_false, beq_self_eq_true, wz, Nat.reduceAdd, Nat.reduceSub, Nat.reduceMul, Nat.reduceBEq, Nat.reduceEqDiff, Nat.reduceLeDiff, Nat.reduceLT, reduceCtorEq, Pt.e, B0, x125, x125B]

/- 84: mapsheets/plan.Arc -/
noncomputable def plan_Arc_fams : List Fam := [sl_Clone_Point_fam]
noncomputable def plan_Arc (a0 : Plan) (a1 : Int) : Option (Arc × Bool) := ((sl_IndexFunc_Arc a0.arcs (fun x0 => plan_Arc_c1 x0 a1)).bind fun y1 => (if y1 < 0 then some ((Arc.mk 0 0 0 (([] : List Pt)) 0 0), false) else ((at_ a0.arcs y1).bind fun e1 => ((appO 16 ([] : List Pt) e1.via).bind fun y2 => some ((Arc.mk e1.id e1.frm e1.to y2 e1.left e1.right), true)))))
theorem plan_Arc_ok {a0 : Plan} {a1 : Int} {r : Arc × Bool} (h : plan_Arc a0 a1 = some r) : callL prog cfg (famT plan_Arc_fams) 84 [.agg [.r (.lst (List.map Node.e a0.nodes) none), .r (.lst (List.map Arc.e a0.arcs) none), .r (.lst (List.map int1 a0.faces) none)], I a1] (E0 []) = some (.tup [.agg [I r.1.id, I r.1.frm, I r.1.to, .r (.lst (List.map Pt.e r.1.via) none), I r.1.left, I r.1.right], B r.2], E0 [], none) := by
  refine callL_wpG cx84 (ax := [.agg [.r (.lst (List.map Node.e a0.nodes) none), .r (.lst (List.map Arc.e a0.arcs) none), .r (.lst (List.map int1 a0.faces) none)], I a1]) rfl rfl ?_
  unfold plan_Arc at h
  try dsimp only at h
  obtain ⟨y1, hy1, h⟩ := obind h
  have g1 : callX prog cfg (famT plan_Arc_fams) 52 [.r (.lst (List.map Arc.e a0.arcs) none), .fn 125 [.ptr 0 0]] (E0 [TO.box [I a1]]) = some (I y1, E0 [TO.box [I a1]], none) := (callX_none (fun _ => by rfl)).trans (sl_IndexFunc_Arc_okG (OsOk.box osok0 rfl (by simp only [eqTVs, eqTV, eqRV_int, eqRV_bool, Bool.and_self])) (Rd.lst _ _ (allLen_map Arc.eok.len _)) (fun  h => (callX_none (fun _ => by rfl)).trans (plan_Arc_c1_okG (OsOk.box osok0 rfl (by simp only [eqTVs, eqTV, eqRV_int, eqRV_bool, Bool.and_self])) (rfl) h)) hy1)
  by_cases c1 : y1 < 0
  · have bc1 : (decide (y1 < 0)) = true := decT c1
    rw [if_pos c1] at h
    cases h
    have hleak := leaks_0 [TO.box [I a1]] 0
    simp only [retG, hleak, ↓askB_true, ↓askB_false, beq_self_eq_true, wz, Nat.reduceAdd, Nat.reduceSub, Nat.reduceMul, Nat.reduceBEq, Nat.reduceEqDiff, Nat.reduceLeDiff, Nat.reduceLT, reduceCtorEq, Arc.e, Node.e, Pt.e, int1, g1, bc1, x84, x84B]
  · have bc1 : (decide (y1 < 0)) = false := decF c1
    rw [if_neg c1] at h
    obtain ⟨e1, he1, h⟩ := obind h
    have i1 := indexSl_at (enc := Arc.e) he1 (sz := 6) rfl
    obtain ⟨y2, hy2, h⟩ := obind h
    obtain ⟨v1, os1, g2, Av1, qos1, sbos1, kbos1, kaos1, kros1, knos1⟩ := callX_clone (P := prog) (cfg := cfg) (fams := plan_Arc_fams) (f := 126) (args := [.r (.lst (List.map Pt.e e1.via) none)]) (os := [TO.box [I a1]]) (os1 := [TO.box [I a1]]) Pt.eok rfl (cvalHit rfl (cloneF_val Pt.eok hy2)) (OsOk.box osok0 rfl (by simp only [eqTVs, eqTV, eqRV_int, eqRV_bool, Bool.and_self]))
    have bv1 := Av1.b
    have Bx1 := (sbos1 0 [I a1]).1 (rfl)
    cases h
    simp only [↓askB_true, ↓askB_false, beq_self_eq_true, wz, Nat.reduceAdd, Nat.reduceSub, Nat.reduceMul, Nat.reduceBEq, Nat.reduceEqDiff, Nat.reduceLeDiff, Nat.reduceLT, reduceCtorEq, Arc.e, Node.e, Pt.e, int1, g1, bc1, i1, g2, bv1, Bx1, x84, x84B]
    obtain ⟨os2, zos2, kzos2, qos2⟩ := Av1.frz qos1
    have Bx2 := (kzos2.box 0 [I a1]).1 Bx1
    have A1 := kzos2.rd _ _ _ Av1
    refine retG_of (vs := [.agg [I e1.id, I e1.frm, I e1.to, v1, I e1.left, I e1.right], B true]) (resF_cons (by simp only [↓askB_true, ↓askB_false, beq_self_eq_true, wz, Nat.reduceAdd, Nat.reduceSub, Nat.reduceMul, Nat.reduceBEq, Nat.reduceEqDiff, Nat.reduceLeDiff, Nat.reduceLT, reduceCtorEq, Arc.e, Node.e, Pt.e, int1, g1, bc1, i1, g2, bv1, Bx1]) (resF_cons (by simp only [↓askB_true, ↓askB_false, beq_self_eq_true, wz, Nat.reduceAdd, Nat.reduceSub, Nat.reduceMul, Nat.reduceBEq, Nat.reduceEqDiff, Nat.reduceLeDiff, Nat.reduceLT, reduceCtorEq, Arc.e, Node.e, Pt.e, int1, g1, bc1, i1, g2, bv1, Bx1]) resF_nil)) (freezeVs_cons (freezeV_agg (freezeL_cons rfl (freezeL_cons rfl (freezeL_cons rfl (freezeL_cons zos2 (freezeL_cons rfl (freezeL_cons rfl rfl))))))) (freezeVs_cons rfl rfl))

noncomputable def plan_Arc_fam : Fam := famC prog cfg (famT plan_Arc_fams) 84
theorem plan_Arc_val {a0 : Plan} {a1 : Int} {r : Arc × Bool} (h : plan_Arc a0 a1 = some r) : plan_Arc_fam.val [.agg [.r (.lst (List.map Node.e a0.nodes) none), .r (.lst (List.map Arc.e a0.arcs) none), .r (.lst (List.map int1 a0.faces) none)], I a1] = some (.flat (.tup [.agg [I r.1.id, I r.1.frm, I r.1.to, .r (.lst (List.map Pt.e r.1.via) none), I r.1.left, I r.1.right], B r.2])) := famC_flat (plan_Arc_ok h) rfl rfl
def plan_Arc_At (fams : List Fam) : Prop := ∀  {a0 : Plan} {a1 : Int} {r : Arc × Bool} {xs_ : List TV} {os os1 : List TO}, plan_Arc a0 a1 = some r → argsT false (E0 os) xs_ = some ([.agg [.r (.lst (List.map Node.e a0.nodes) none), .r (.lst (List.map Arc.e a0.arcs) none), .r (.lst (List.map int1 a0.faces) none)], I a1], E0 os1) → callX prog cfg (famT fams) 84 xs_ (E0 os) = some (.tup [.agg [I r.1.id, I r.1.frm, I r.1.to, .r (.lst (List.map Pt.e r.1.via) none), I r.1.left, I r.1.right], B r.2], E0 os1, none)
theorem plan_Arc_goods : ∀ x, x ∈ plan_Arc_fams → x.Good prog := (goodsC sl_Clone_Point_good goods0)
theorem plan_Arc_good : plan_Arc_fam.Good prog := famC_good sound plan_Arc_goods
/- 48: mapsheets/plan.Path -/
noncomputable def plan_Path_fams : List Fam := [plan_Arc_fam, plan_Node_fam]
noncomputable def plan_Path (a0 : Plan) (a1 : Int) : Option ((List Pt) × Int) := ((plan_Arc a0 a1).bind fun y1 => ((plan_Node a0 y1.1.frm).bind fun y2 => ((plan_Node a0 y1.1.to).bind fun y3 => (if y1.2 = true then (if y2.2 = true then (if y3.2 = true then ((appO 16 (([] : List Pt)) (([y2.1.pt] : List Pt))).bind fun l1 => ((appO 16 l1 y1.1.via).bind fun l2 => ((appO 16 l2 (([y3.1.pt] : List Pt))).bind fun l3 => some (l3, 0)))) else some (([] : List Pt), 7)) else some (([] : List Pt), 7)) else some (([] : List Pt), 7)))))
theorem plan_Path_ok {a0 : Plan} {a1 : Int} {r : (List Pt) × Int} (h : plan_Path a0 a1 = some r) : callL prog cfg (famT plan_Path_fams) 48 [.agg [.r (.lst (List.map Node.e a0.nodes) none), .r (.lst (List.map Arc.e a0.arcs) none), .r (.lst (List.map int1 a0.faces) none)], I a1] (E0 []) = some (.tup [.r (.lst (List.map Pt.e r.1) none), I r.2], E0 [], none) := by
  refine callL_wpG cx48 (ax := [.agg [.r (.lst (List.map Node.e a0.nodes) none), .r (.lst (List.map Arc.e a0.arcs) none), .r (.lst (List.map int1 a0.faces) none)], I a1]) rfl rfl ?_
  unfold plan_Path at h
  try dsimp only at h
  obtain ⟨y1, hy1, h⟩ := obind h
  have g1 : ∀ os, callX prog cfg (famT plan_Path_fams) 84 [.agg [.r (.lst (List.map Node.e a0.nodes) none), .r (.lst (List.map Arc.e a0.arcs) none), .r (.lst (List.map int1 a0.faces) none)], I a1] (E0 os) = some (.tup [.agg [I y1.1.id, I y1.1.frm, I y1.1.to, .r (.lst (List.map Pt.e y1.1.via) none), I y1.1.left, I y1.1.right], B y1.2], E0 os, none) := fun os => callX_fam rfl (famLook_hit rfl (plan_Arc_val hy1))
  obtain ⟨y2, hy2, h⟩ := obind h
  have g2 : ∀ os, callX prog cfg (famT plan_Path_fams) 62 [.agg [.r (.lst (List.map Node.e a0.nodes) none), .r (.lst (List.map Arc.e a0.arcs) none), .r (.lst (List.map int1 a0.faces) none)], I y1.1.frm] (E0 os) = some (.tup [.agg [I y2.1.id, I y2.1.pt.x, I y2.1.pt.y], B y2.2], E0 os, none) := fun os => callX_fam rfl (famLook_skip rfl <| famLook_hit rfl (plan_Node_val hy2))
  obtain ⟨y3, hy3, h⟩ := obind h
  have g3 : ∀ os, callX prog cfg (famT plan_Path_fams) 62 [.agg [.r (.lst (List.map Node.e a0.nodes) none), .r (.lst (List.map Arc.e a0.arcs) none), .r (.lst (List.map int1 a0.faces) none)], I y1.1.to] (E0 os) = some (.tup [.agg [I y3.1.id, I y3.1.pt.x, I y3.1.pt.y], B y3.2], E0 os, none) := fun os => callX_fam rfl (famLook_skip rfl <| famLook_hit rfl (plan_Node_val hy3))
  by_cases c1 : y1.2 = true
  · have bc1 : (y1.2) = true := id c1
    rw [if_pos c1] at h
    by_cases c2 : y2.2 = true
    · have bc2 : (y2.2) = true := id c2
      rw [if_pos c2] at h
      by_cases c3 : y3.2 = true
      · have bc3 : (y3.2) = true := id c3
        rw [if_pos c3] at h
        obtain ⟨l1, hl1, h⟩ := obind h
        obtain ⟨v1, w1, os1, hw1, sw1, fw1, kw1, Av1l, qos1, sbw1, kcw1, kbw1, kaw1, krw1⟩ := AccL.appT (os := []) (v := nilT) (x := .r (.lst [[cI y2.1.pt.x, cI y2.1.pt.y]] (some 1))) (xs := ([] : List Pt)) (ys := ([y2.1.pt] : List Pt)) Pt.eok hl1 AccL.nil osok0 rfl
        have bv1 := Av1l.rd.b
        replace kw1 := zeroEk_out kw1
        have Av1 := kcw1 (Or.inl (by simp))
        obtain ⟨l2, hl2, h⟩ := obind h
        obtain ⟨v2, w2, os2, hw2, sw2, fw2, kw2, Av2l, qos2, sbw2, kcw2, kbw2, kaw2, krw2⟩ := AccL.appT (os := os1) (v := v1) (x := .r (.lst (List.map Pt.e y1.1.via) none)) (xs := l1) (ys := y1.1.via) Pt.eok hl2 Av1.l qos1 rfl
        have bv2 := Av2l.rd.b
        replace kw2 := zeroEk_out kw2
        have Av2 := kcw2 (Or.inr Av1)
        obtain ⟨l3, hl3, h⟩ := obind h
        obtain ⟨v3, w3, os3, hw3, sw3, fw3, kw3, Av3l, qos3, sbw3, kcw3, kbw3, kaw3, krw3⟩ := AccL.appT (os := os2) (v := v2) (x := .r (.lst [[cI y3.1.pt.x, cI y3.1.pt.y]] (some 1))) (xs := l2) (ys := ([y3.1.pt] : List Pt)) Pt.eok hl3 Av2.l qos2 rfl
        have bv3 := Av3l.rd.b
        replace kw3 := zeroEk_out kw3
        have Av3 := kcw3 (Or.inl (by simp))
        cases h
        simp only [↓askB_true, ↓askB_false, beq_self_eq_true, wz, Nat.reduceAdd, Nat.reduceSub, Nat.reduceMul, Nat.reduceBEq, Nat.reduceEqDiff, Nat.reduceLeDiff, Nat.reduceLT, reduceCtorEq, Arc.e, Node.e, Pt.e, int1, g1, g2, g3, bc1, bc2, bc3, hw1, sw1, fw1, kw1, bv1, hw2, sw2, fw2, kw2, bv2, hw3, sw3, fw3, kw3, bv3, x48, x48B]
        obtain ⟨os4, zos4, kzos4, qos4⟩ := Av3.rd.frz qos3
        have A1 := kzos4.own _ _ _ Av3
        refine retG_of (vs := [v3, I 0]) (resF_cons (resF1_of (by simp only [↓askB_true, ↓askB_false, beq_self_eq_true, wz, Nat.reduceAdd, Nat.reduceSub, Nat.reduceMul, Nat.reduceBEq, Nat.reduceEqDiff, Nat.reduceLeDiff, Nat.reduceLT, reduceCtorEq, Arc.e, Node.e, Pt.e, int1, g1, g2, g3, bc1, bc2, bc3, hw1, sw1, fw1, kw1, bv1, hw2, sw2, fw2, kw2, bv2, hw3, sw3, fw3, kw3, bv3]) bv3.2.1) (resF_cons (by simp only [↓askB_true, ↓askB_false, beq_self_eq_true, wz, Nat.reduceAdd, Nat.reduceSub, Nat.reduceMul, Nat.reduceBEq, Nat.reduceEqDiff, Nat.reduceLeDiff, Nat.reduceLT, reduceCtorEq, Arc.e, Node.e, Pt.e, int1, g1, g2, g3, bc1, bc2, bc3, hw1, sw1, fw1, kw1, bv1, hw2, sw2, fw2, kw2, bv2, hw3, sw3, fw3, kw3, bv3]) resF_nil)) (freezeVs_cons (freezeV_rd Av3.rd zos4) (freezeVs_cons rfl rfl))
      · have bc3 : (y3.2) = false := boolF c3
        rw [if_neg c3] at h
        cases h
        simp only [retG, ↓askB_true, ↓askB_false, beq_self_eq_true, wz, Nat.reduceAdd, Nat.reduceSub, Nat.reduceMul, Nat.reduceBEq, Nat.reduceEqDiff, Nat.reduceLeDiff, Nat.reduceLT, reduceCtorEq, Arc.e, Node.e, Pt.e, int1, g1, g2, g3, bc1, bc2, bc3, x48, x48B]
    · have bc2 : (y2.2) = false := boolF c2
      rw [if_neg c2] at h
      cases h
      simp only [retG, ↓askB_true, ↓askB_false, beq_self_eq_true, wz, Nat.reduceAdd, Nat.reduceSub, Nat.reduceMul, Nat.reduceBEq, Nat.reduceEqDiff, Nat.reduceLeDiff, Nat.reduceLT, reduceCtorEq, Arc.e, Node.e, Pt.e, int1, g1, g2, g3, bc1, bc2, x48, x48B]
  · have bc1 : (y1.2) = false := boolF c1
    rw [if_neg c1] at h
    cases h
    simp only [retG, ↓askB_true, ↓askB_false, beq_self_eq_true, wz, Nat.reduceAdd, Nat.reduceSub, Nat.reduceMul, Nat.reduceBEq, Nat.reduceEqDiff, Nat.reduceLeDiff, Nat.reduceLT, reduceCtorEq, Arc.e, Node.e, Pt.e, int1, g1, g2, g3, bc1, x48, x48B]

noncomputable def plan_Path_fam : Fam := famC prog cfg (famT plan_Path_fams) 48
theorem plan_Path_val {a0 : Plan} {a1 : Int} {r : (List Pt) × Int} (h : plan_Path a0 a1 = some r) : plan_Path_fam.val [.agg [.r (.lst (List.map Node.e a0.nodes) none), .r (.lst (List.map Arc.e a0.arcs) none), .r (.lst (List.map int1 a0.faces) none)], I a1] = some (.flat (.tup [.r (.lst (List.map Pt.e r.1) none), I r.2])) := famC_flat (plan_Path_ok h) rfl rfl
def plan_Path_At (fams : List Fam) : Prop := ∀  {a0 : Plan} {a1 : Int} {r : (List Pt) × Int} {xs_ : List TV} {os os1 : List TO}, plan_Path a0 a1 = some r → argsT false (E0 os) xs_ = some ([.agg [.r (.lst (List.map Node.e a0.nodes) none), .r (.lst (List.map Arc.e a0.arcs) none), .r (.lst (List.map int1 a0.faces) none)], I a1], E0 os1) → callX prog cfg (famT fams) 48 xs_ (E0 os) = some (.tup [.r (.lst (List.map Pt.e r.1) none), I r.2], E0 os1, none)
theorem plan_Path_goods : ∀ x, x ∈ plan_Path_fams → x.Good prog := (goodsC plan_Arc_good (goodsC plan_Node_good goods0))
theorem plan_Path_good : plan_Path_fam.Good prog := famC_good sound plan_Path_goods
/- 53: mapsheets/walk.arc$1 (at any store) -/
noncomputable def walk_arc_c1 (a0 : Arc) (c0_ : Int) : Option (Bool) := some (a0.id == c0_)
theorem walk_arc_c1_okG {fams : List Fam} {os : List TO} (q : OsOk os) {a0 : Arc} {c0_ : Int} {o0 : Nat} (B0 : os[o0]? = some (TO.box [I c0_])) {r : Bool} (h : walk_arc_c1 a0 c0_ = some r) : callL prog cfg (famT fams) 53 [.agg [I a0.id, I a0.frm, I a0.to, .r (.lst (List.map Pt.e a0.via) none), I a0.left, I a0.right], .ptr o0 0] (E0 os) = some (B r, E0 os, none) := by
  refine callL_wpGb cx53 (ax := [.agg [I a0.id, I a0.frm, I a0.to, .r (.lst (List.map Pt.e a0.via) none), I a0.left, I a0.right], .ptr o0 0]) rfl (argsTb_cons rfl (argsTb_cons rfl rfl)) ?_
  unfold walk_arc_c1 at h
  try dsimp only at h
  cases h
  have hleak := q.leak
  simp only [retGb, hleak, ↓askB_true, ↓askB_false, beq_self_eq_true, wz, Nat.reduceAdd, Nat.reduceSub, Nat.reduceMul, Nat.reduceBEq, Nat.reduceEqDiff, Nat.reduceLeDiff, Nat.reduceLT, reduceCtorEq, Pt.e, B0, x53, x53B]

/- 31: mapsheets/walk.arc -/
noncomputable def walk_arc_fams : List Fam := []
noncomputable def walk_arc (a0 : Plan) (a1 : Int) : Option (Arc × Bool) := (if a1 < 0 then (if (w64 (0 - a1)) ≤ 0 then some ((Arc.mk 0 0 0 (([] : List Pt)) 0 0), false) else ((sl_IndexFunc_Arc a0.arcs (fun x0 => walk_arc_c1 x0 (w64 (0 - a1)))).bind fun y1 => (if y1 < 0 then some ((Arc.mk 0 0 0 (([] : List Pt)) 0 0), false) else ((at_ a0.arcs y1).bind fun e1 => some (e1, true))))) else (if a1 ≤ 0 then some ((Arc.mk 0 0 0 (([] : List Pt)) 0 0), false) else ((sl_IndexFunc_Arc a0.arcs (fun x0 => walk_arc_c1 x0 a1)).bind fun y2 => (if y2 < 0 then some ((Arc.mk 0 0 0 (([] : List Pt)) 0 0), false) else ((at_ a0.arcs y2).bind fun e2 => some (e2, true))))))
theorem walk_arc_ok {a0 : Plan} {a1 : Int} {r : Arc × Bool} (h : walk_arc a0 a1 = some r) : callL prog cfg (famT walk_arc_fams) 31 [.agg [.r (.lst (List.map Node.e a0.nodes) none), .r (.lst (List.map Arc.e a0.arcs) none), .r (.lst (List.map int1 a0.faces) none)], I a1] (E0 []) = some (.tup [.agg [I r.1.id, I r.1.frm, I r.1.to, .r (.lst (List.map Pt.e r.1.via) none), I r.1.left, I r.1.right], B r.2], E0 [], none) := by
  refine callL_wpG cx31 (ax := [.agg [.r (.lst (List.map Node.e a0.nodes) none), .r (.lst (List.map Arc.e a0.arcs) none), .r (.lst (List.map int1 a0.faces) none)], I a1]) rfl rfl ?_
  unfold walk_arc at h
  try dsimp only at h
  by_cases c1 : a1 < 0
  · have bc1 : (decide (a1 < 0)) = true := decT c1
    rw [if_pos c1] at h
    by_cases c2 : (w64 (0 - a1)) ≤ 0
    · have bc2 : (decide ((w64 (0 - a1)) ≤ 0)) = true := decT c2
      rw [if_pos c2] at h
      cases h
      have hleak := leaks_0 [TO.box [I (w64 (0 - a1))]] 0
      simp only [retG, hleak, ↓askB_true, ↓askB_false, beq_self_eq_true, wz, Nat.reduceAdd, Nat.reduceSub, Nat.reduceMul, Nat.reduceBEq, Nat.reduceEqDiff, Nat.reduceLeDiff, Nat.reduceLT, reduceCtorEq, Arc.e, Node.e, Pt.e, int1, bc1, bc2, x31, x31B]
    · have bc2 : (decide ((w64 (0 - a1)) ≤ 0)) = false := decF c2
      rw [if_neg c2] at h
      obtain ⟨y1, hy1, h⟩ := obind h
      have g1 : callX prog cfg (famT walk_arc_fams) 52 [.r (.lst (List.map Arc.e a0.arcs) none), .fn 53 [.ptr 0 0]] (E0 [TO.box [I (w64 (0 - a1))]]) = some (I y1, E0 [TO.box [I (w64 (0 - a1))]], none) := (callX_none (fun _ => by rfl)).trans (sl_IndexFunc_Arc_okG (OsOk.box osok0 rfl (by simp only [eqTVs, eqTV, eqRV_int, eqRV_bool, Bool.and_self])) (Rd.lst _ _ (allLen_map Arc.eok.len _)) (fun  h => (callX_none (fun _ => by rfl)).trans (walk_arc_c1_okG (OsOk.box osok0 rfl (by simp only [eqTVs, eqTV, eqRV_int, eqRV_bool, Bool.and_self])) (rfl) h)) hy1)
      by_cases c3 : y1 < 0
      · have bc3 : (decide (y1 < 0)) = true := decT c3
        rw [if_pos c3] at h
        cases h
        have hleak := leaks_0 [TO.box [I (w64 (0 - a1))]] 0
        simp only [retG, hleak, ↓askB_true, ↓askB_false, beq_self_eq_true, wz, Nat.reduceAdd, Nat.reduceSub, Nat.reduceMul, Nat.reduceBEq, Nat.reduceEqDiff, Nat.reduceLeDiff, Nat.reduceLT, reduceCtorEq, Arc.e, Node.e, Pt.e, int1, bc1, bc2, g1, bc3, x31, x31B]
      · have bc3 : (decide (y1 < 0)) = false := decF c3
        rw [if_neg c3] at h
        obtain ⟨e1, he1, h⟩ := obind h
        have i1 := indexSl_at (enc := Arc.e) he1 (sz := 6) rfl
        cases h
        have hleak := leaks_0 [TO.box [I (w64 (0 - a1))]] 0
        simp only [retG, hleak, ↓askB_true, ↓askB_false, beq_self_eq_true, wz, Nat.reduceAdd, Nat.reduceSub, Nat.reduceMul, Nat.reduceBEq, Nat.reduceEqDiff, Nat.reduceLeDiff, Nat.reduceLT, reduceCtorEq, Arc.e, Node.e, Pt.e, int1, bc1, bc2, g1, bc3, i1, x31, x31B]
  · have bc1 : (decide (a1 < 0)) = false := decF c1
    rw [if_neg c1] at h
    by_cases c4 : a1 ≤ 0
    · have bc4 : (decide (a1 ≤ 0)) = true := decT c4
      rw [if_pos c4] at h
      cases h
      have hleak := leaks_0 [TO.box [I a1]] 0
      simp only [retG, hleak, ↓askB_true, ↓askB_false, beq_self_eq_true, wz, Nat.reduceAdd, Nat.reduceSub, Nat.reduceMul, Nat.reduceBEq, Nat.reduceEqDiff, Nat.reduceLeDiff, Nat.reduceLT, reduceCtorEq, Arc.e, Node.e, Pt.e, int1, bc1, bc4, x31, x31B]
    · have bc4 : (decide (a1 ≤ 0)) = false := decF c4
      rw [if_neg c4] at h
      obtain ⟨y2, hy2, h⟩ := obind h
      have g2 : callX prog cfg (famT walk_arc_fams) 52 [.r (.lst (List.map Arc.e a0.arcs) none), .fn 53 [.ptr 0 0]] (E0 [TO.box [I a1]]) = some (I y2, E0 [TO.box [I a1]], none) := (callX_none (fun _ => by rfl)).trans (sl_IndexFunc_Arc_okG (OsOk.box osok0 rfl (by simp only [eqTVs, eqTV, eqRV_int, eqRV_bool, Bool.and_self])) (Rd.lst _ _ (allLen_map Arc.eok.len _)) (fun  h => (callX_none (fun _ => by rfl)).trans (walk_arc_c1_okG (OsOk.box osok0 rfl (by simp only [eqTVs, eqTV, eqRV_int, eqRV_bool, Bool.and_self])) (rfl) h)) hy2)
      by_cases c5 : y2 < 0
      · have bc5 : (decide (y2 < 0)) = true := decT c5
        rw [if_pos c5] at h
        cases h
        have hleak := leaks_0 [TO.box [I a1]] 0
        simp only [retG, hleak, ↓askB_true, ↓askB_false, beq_self_eq_true, wz, Nat.reduceAdd, Nat.reduceSub, Nat.reduceMul, Nat.reduceBEq, Nat.reduceEqDiff, Nat.reduceLeDiff, Nat.reduceLT, reduceCtorEq, Arc.e, Node.e, Pt.e, int1, bc1, bc4, g2, bc5, x31, x31B]
      · have bc5 : (decide (y2 < 0)) = false := decF c5
        rw [if_neg c5] at h
        obtain ⟨e2, he2, h⟩ := obind h
        have i2 := indexSl_at (enc := Arc.e) he2 (sz := 6) rfl
        cases h
        have hleak := leaks_0 [TO.box [I a1]] 0
        simp only [retG, hleak, ↓askB_true, ↓askB_false, beq_self_eq_true, wz, Nat.reduceAdd, Nat.reduceSub, Nat.reduceMul, Nat.reduceBEq, Nat.reduceEqDiff, Nat.reduceLeDiff, Nat.reduceLT, reduceCtorEq, Arc.e, Node.e, Pt.e, int1, bc1, bc4, g2, bc5, i2, x31, x31B]

noncomputable def walk_arc_fam : Fam := famC prog cfg (famT walk_arc_fams) 31
theorem walk_arc_val {a0 : Plan} {a1 : Int} {r : Arc × Bool} (h : walk_arc a0 a1 = some r) : walk_arc_fam.val [.agg [.r (.lst (List.map Node.e a0.nodes) none), .r (.lst (List.map Arc.e a0.arcs) none), .r (.lst (List.map int1 a0.faces) none)], I a1] = some (.flat (.tup [.agg [I r.1.id, I r.1.frm, I r.1.to, .r (.lst (List.map Pt.e r.1.via) none), I r.1.left, I r.1.right], B r.2])) := famC_flat (walk_arc_ok h) rfl rfl
def walk_arc_At (fams : List Fam) : Prop := ∀  {a0 : Plan} {a1 : Int} {r : Arc × Bool} {xs_ : List TV} {os os1 : List TO}, walk_arc a0 a1 = some r → argsT false (E0 os) xs_ = some ([.agg [.r (.lst (List.map Node.e a0.nodes) none), .r (.lst (List.map Arc.e a0.arcs) none), .r (.lst (List.map int1 a0.faces) none)], I a1], E0 os1) → callX prog cfg (famT fams) 31 xs_ (E0 os) = some (.tup [.agg [I r.1.id, I r.1.frm, I r.1.to, .r (.lst (List.map Pt.e r.1.via) none), I r.1.left, I r.1.right], B r.2], E0 os1, none)
theorem walk_arc_goods : ∀ x, x ∈ walk_arc_fams → x.Good prog := goods0
theorem walk_arc_good : walk_arc_fam.Good prog := famC_good sound walk_arc_goods
/- 25: mapsheets/walk.Twice -/
noncomputable def walk_Twice_fams : List Fam := [walk_arc_fam, plan_Path_fam]
def walk_Twice_L0b (a0 : Plan) (a1 : List Int) (i14 : Int) (i15 : Int) (e11 : Int) (y6 : (List Pt) × Int) : Int × Int → Option ((Int × Int) ⊕ ((Int))) := fun (i33, i34) => (if i34 < ((y6.1.length : Int)) then ((at_ y6.1 (w64 (i34 - 1))).bind fun e16 => ((at_ y6.1 i34).bind fun e17 => some (.inl (w64 (i33 + (w64 ((w64 (e16.x * e17.y)) - (w64 (e17.x * e16.y))))), w64 (i34 + 1))))) else some (.inr i33))
def walk_Twice_L0R (a0 : Plan) (a1 : List Int) (i14 : Int) (i15 : Int) (e11 : Int) (y6 : (List Pt) × Int) : Int × Int → Fr → TS → Prop := fun (i33, i34) f S => S = E0 [] ∧ f 2 = .lv [.r (.lst (List.map Node.e a0.nodes) none), .r (.lst (List.map Arc.e a0.arcs) none), .r (.lst (List.map int1 a0.faces) none)] ∧ f 5 = I i14 ∧ f 7 = I e11 ∧ f 10 = .r (.lst (List.map Pt.e y6.1) none) ∧ f 12 = I i33 ∧ f 13 = I i34 ∧ f 17 = .r (.lst (List.map int1 a1) none) ∧ f 18 = I ((a1.length : Int)) ∧ f 19 = I i15
def walk_Twice_L0E (a0 : Plan) (a1 : List Int) (i14 : Int) (i15 : Int) (e11 : Int) (y6 : (List Pt) × Int) : ((Int)) → TX → Fr → TS → Prop
  | i37, tx, f, S => tx = TX.exit 2 ∧ S = E0 [] ∧ f 2 = .lv [.r (.lst (List.map Node.e a0.nodes) none), .r (.lst (List.map Arc.e a0.arcs) none), .r (.lst (List.map int1 a0.faces) none)] ∧ f 5 = I i14 ∧ f 7 = I e11 ∧ f 12 = I i37 ∧ f 17 = .r (.lst (List.map int1 a1) none) ∧ f 18 = I ((a1.length : Int)) ∧ f 19 = I i15
noncomputable def walk_Twice_L0 (a0 : Plan) (a1 : List Int) (i14 : Int) (i15 : Int) (e11 : Int) (y6 : (List Pt) × Int) (s : Int × Int) : Option ((Int)) := loopO (walk_Twice_L0b a0 a1 i14 i15 e11 y6) s
theorem walk_Twice_L0_ok {a0 : Plan} {a1 : List Int} {i14 : Int} {i15 : Int} {e11 : Int} {y6 : (List Pt) × Int} {s : Int × Int} {r : (Int)} {Q : TX → Fr → TS → Prop} (h : walk_Twice_L0 a0 a1 i14 i15 e11 y6 s = some r) {f : Fr} {S : TS} (hR : walk_Twice_L0R a0 a1 i14 i15 e11 y6 s f S) (hQ : ∀ tx f S, walk_Twice_L0E a0 a1 i14 i15 e11 y6 r tx f S → Q tx f S) : wp prog [2, 8] (callX prog cfg (famT walk_Twice_fams)) (.loop x25L0) Q f S := by
  refine wp_loopO x25L0.eq_1 ?_ h hR hQ
  clear hQ hR h
  intro s x f S h hR
  obtain ⟨i33, i34⟩ := s
  obtain ⟨rfl, f2, f5, f7, f10, f12, f13, f17, f18, f19⟩ := hR
  unfold walk_Twice_L0b at h
  try dsimp only at h
  by_cases c19 : i34 < ((y6.1.length : Int))
  · have bc19 : (decide (i34 < ((y6.1.length : Int)))) = true := decT c19
    rw [if_pos c19] at h
    obtain ⟨e16, he16, h⟩ := obind h
    have i38 := indexSl_at (enc := Pt.e) he16 (sz := 2) rfl
    obtain ⟨e17, he17, h⟩ := obind h
    have i39 := indexSl_at (enc := Pt.e) he17 (sz := 2) rfl
    cases h
    simp only [stepQ_normal, walk_Twice_L0R, ↓askB_true, ↓askB_false, beq_self_eq_true, wz, Nat.reduceAdd, Nat.reduceSub, Nat.reduceMul, Nat.reduceBEq, Nat.reduceEqDiff, Nat.reduceLeDiff, Nat.reduceLT, reduceCtorEq, x25S0, Arc.e, Node.e, Pt.e, int1, f2, f5, f7, f10, f12, f13, f17, f18, f19, bc19, i38, i39]
  · have bc19 : (decide (i34 < ((y6.1.length : Int)))) = false := decF c19
    rw [if_neg c19] at h
    cases h
    simp only [stepQ_exit, stepQ_ret, walk_Twice_L0E, ↓askB_true, ↓askB_false, beq_self_eq_true, wz, Nat.reduceAdd, Nat.reduceSub, Nat.reduceMul, Nat.reduceBEq, Nat.reduceEqDiff, Nat.reduceLeDiff, Nat.reduceLT, reduceCtorEq, x25S0, Arc.e, Node.e, Pt.e, int1, f2, f5, f7, f10, f12, f13, f17, f18, f19, bc19]

def walk_Twice_L1b (a0 : Plan) (a1 : List Int) : Int × Int → Option ((Int × Int) ⊕ ((Unit) ⊕ (Int))) := fun (i14, i15) => (if i15 < ((a1.length : Int)) then ((at_ a1 i15).bind fun e11 => ((walk_arc a0 e11).bind fun y5 => (if y5.2 = true then ((plan_Path a0 y5.1.id).bind fun y6 => ((walk_Twice_L0 a0 a1 i14 i15 e11 y6 (0, 1)).bind (fun i40 => (if e11 < 0 then some (.inl (w64 (i14 + (w64 (0 - i40))), w64 (i15 + 1))) else some (.inl (w64 (i14 + i40), w64 (i15 + 1))))))) else some (.inr (Sum.inl ()))))) else some (.inr (Sum.inr i14)))
def walk_Twice_L1R (a0 : Plan) (a1 : List Int) : Int × Int → Fr → TS → Prop := fun (i14, i15) f S => S = E0 [] ∧ f 2 = .lv [.r (.lst (List.map Node.e a0.nodes) none), .r (.lst (List.map Arc.e a0.arcs) none), .r (.lst (List.map int1 a0.faces) none)] ∧ f 5 = I i14 ∧ f 17 = .r (.lst (List.map int1 a1) none) ∧ f 18 = I ((a1.length : Int)) ∧ f 19 = I i15
def walk_Twice_L1E (a0 : Plan) (a1 : List Int) : ((Unit) ⊕ (Int)) → TX → Fr → TS → Prop
  | (Sum.inl ()), tx, f, S => tx = TX.ret ∧ S = E0 [] ∧ f 4 = I 0
  | (Sum.inr i27), tx, f, S => tx = TX.exit 0 ∧ S = E0 [] ∧ f 5 = I i27
noncomputable def walk_Twice_L1 (a0 : Plan) (a1 : List Int) (s : Int × Int) : Option ((Unit) ⊕ (Int)) := loopO (walk_Twice_L1b a0 a1) s
theorem walk_Twice_L1_ok {a0 : Plan} {a1 : List Int} {s : Int × Int} {r : (Unit) ⊕ (Int)} {Q : TX → Fr → TS → Prop} (h : walk_Twice_L1 a0 a1 s = some r) {f : Fr} {S : TS} (hR : walk_Twice_L1R a0 a1 s f S) (hQ : ∀ tx f S, walk_Twice_L1E a0 a1 r tx f S → Q tx f S) : wp prog [2, 8] (callX prog cfg (famT walk_Twice_fams)) (.loop x25L1) Q f S := by
  refine wp_loopO x25L1.eq_1 ?_ h hR hQ
  clear hQ hR h
  intro s x f S h hR
  obtain ⟨i14, i15⟩ := s
  obtain ⟨rfl, f2, f5, f17, f18, f19⟩ := hR
  unfold walk_Twice_L1b at h
  try dsimp only at h
  by_cases c15 : i15 < ((a1.length : Int))
  · have bc15 : (decide (i15 < ((a1.length : Int)))) = true := decT c15
    rw [if_pos c15] at h
    obtain ⟨e11, he11, h⟩ := obind h
    have i28 := indexSl_at (enc := int1) he11 (sz := 1) rfl
    obtain ⟨y5, hy5, h⟩ := obind h
    have g5 : ∀ os, callX prog cfg (famT walk_Twice_fams) 31 [.agg [.r (.lst (List.map Node.e a0.nodes) none), .r (.lst (List.map Arc.e a0.arcs) none), .r (.lst (List.map int1 a0.faces) none)], I e11] (E0 os) = some (.tup [.agg [I y5.1.id, I y5.1.frm, I y5.1.to, .r (.lst (List.map Pt.e y5.1.via) none), I y5.1.left, I y5.1.right], B y5.2], E0 os, none) := fun os => callX_fam rfl (famLook_hit rfl (walk_arc_val hy5))
    by_cases c16 : y5.2 = true
    · have bc16 : (y5.2) = true := id c16
      rw [if_pos c16] at h
      obtain ⟨y6, hy6, h⟩ := obind h
      have g6 : ∀ os, callX prog cfg (famT walk_Twice_fams) 48 [.agg [.r (.lst (List.map Node.e a0.nodes) none), .r (.lst (List.map Arc.e a0.arcs) none), .r (.lst (List.map int1 a0.faces) none)], I y5.1.id] (E0 os) = some (.tup [.r (.lst (List.map Pt.e y6.1) none), I y6.2], E0 os, none) := fun os => callX_fam rfl (famLook_skip rfl <| famLook_hit rfl (plan_Path_val hy6))
      obtain ⟨x3, hx3, h⟩ := obind h
      simp only [↓askB_true, ↓askB_false, beq_self_eq_true, wz, Nat.reduceAdd, Nat.reduceSub, Nat.reduceMul, Nat.reduceBEq, Nat.reduceEqDiff, Nat.reduceLeDiff, Nat.reduceLT, reduceCtorEq, x25S0, Arc.e, Node.e, Pt.e, int1, f2, f5, f17, f18, f19, bc15, i28, g5, bc16, g6]
      refine walk_Twice_L0_ok hx3 ?_ ?_
      · simp only [walk_Twice_L0R, ↓askB_true, ↓askB_false, beq_self_eq_true, wz, Nat.reduceAdd, Nat.reduceSub, Nat.reduceMul, Nat.reduceBEq, Nat.reduceEqDiff, Nat.reduceLeDiff, Nat.reduceLT, reduceCtorEq, x25S0, Arc.e, Node.e, Pt.e, int1, f2, f5, f17, f18, f19, bc15, i28, g5, bc16, g6]
      intro tx f S hE
      revert hx3 h hE; revert x3; intro i40 hx3 h hE
      try dsimp only [sumK] at h
      obtain ⟨rfl, rfl, f2, f5, f7, f12, f17, f18, f19⟩ := hE
      by_cases c20 : e11 < 0
      · have bc20 : (decide (e11 < 0)) = true := decT c20
        rw [if_pos c20] at h
        cases h
        simp only [stepQ_normal, walk_Twice_L1R, ↓askB_true, ↓askB_false, beq_self_eq_true, wz, Nat.reduceAdd, Nat.reduceSub, Nat.reduceMul, Nat.reduceBEq, Nat.reduceEqDiff, Nat.reduceLeDiff, Nat.reduceLT, reduceCtorEq, x25S0, Arc.e, Node.e, Pt.e, int1, bc15, i28, g5, bc16, g6, f2, f5, f7, f12, f17, f18, f19, bc20]
      · have bc20 : (decide (e11 < 0)) = false := decF c20
        rw [if_neg c20] at h
        cases h
        simp only [stepQ_normal, walk_Twice_L1R, ↓askB_true, ↓askB_false, beq_self_eq_true, wz, Nat.reduceAdd, Nat.reduceSub, Nat.reduceMul, Nat.reduceBEq, Nat.reduceEqDiff, Nat.reduceLeDiff, Nat.reduceLT, reduceCtorEq, x25S0, Arc.e, Node.e, Pt.e, int1, bc15, i28, g5, bc16, g6, f2, f5, f7, f12, f17, f18, f19, bc20]
    · have bc16 : (y5.2) = false := boolF c16
      rw [if_neg c16] at h
      cases h
      simp only [stepQ_exit, stepQ_ret, walk_Twice_L1E, ↓askB_true, ↓askB_false, beq_self_eq_true, wz, Nat.reduceAdd, Nat.reduceSub, Nat.reduceMul, Nat.reduceBEq, Nat.reduceEqDiff, Nat.reduceLeDiff, Nat.reduceLT, reduceCtorEq, x25S0, Arc.e, Node.e, Pt.e, int1, f2, f5, f17, f18, f19, bc15, i28, g5, bc16]
  · have bc15 : (decide (i15 < ((a1.length : Int)))) = false := decF c15
    rw [if_neg c15] at h
    cases h
    simp only [stepQ_exit, stepQ_ret, walk_Twice_L1E, ↓askB_true, ↓askB_false, beq_self_eq_true, wz, Nat.reduceAdd, Nat.reduceSub, Nat.reduceMul, Nat.reduceBEq, Nat.reduceEqDiff, Nat.reduceLeDiff, Nat.reduceLT, reduceCtorEq, x25S0, Arc.e, Node.e, Pt.e, int1, f2, f5, f17, f18, f19, bc15]

noncomputable def walk_Twice (a0 : Plan) (a1 : List Int) : Option (Int) := (if ((a1.length : Int)) > 512 then some 0 else ((walk_Twice_L1 a0 a1 (0, 0)).bind (fun x4 => sumK x4 (fun _ => some 0) (fun i41 => some i41))))
theorem walk_Twice_ok {a0 : Plan} {a1 : List Int} {r : Int} (h : walk_Twice a0 a1 = some r) : callL prog cfg (famT walk_Twice_fams) 25 [.agg [.r (.lst (List.map Node.e a0.nodes) none), .r (.lst (List.map Arc.e a0.arcs) none), .r (.lst (List.map int1 a0.faces) none)], .r (.lst (List.map int1 a1) none)] (E0 []) = some (I r, E0 [], none) := by
  refine callL_wpG cx25 (ax := [.agg [.r (.lst (List.map Node.e a0.nodes) none), .r (.lst (List.map Arc.e a0.arcs) none), .r (.lst (List.map int1 a0.faces) none)], .r (.lst (List.map int1 a1) none)]) rfl rfl ?_
  unfold walk_Twice at h
  try dsimp only at h
  by_cases c1 : ((a1.length : Int)) > 512
  · have bc1 : (decide (((a1.length : Int)) > 512)) = true := decT c1
    rw [if_pos c1] at h
    cases h
    simp only [retG, ↓askB_true, ↓askB_false, beq_self_eq_true, wz, Nat.reduceAdd, Nat.reduceSub, Nat.reduceMul, Nat.reduceBEq, Nat.reduceEqDiff, Nat.reduceLeDiff, Nat.reduceLT, reduceCtorEq, x25S0, Arc.e, Node.e, Pt.e, int1, bc1, x25, x25B]
  · have bc1 : (decide (((a1.length : Int)) > 512)) = false := decF c1
    rw [if_neg c1] at h
    obtain ⟨x4, hx4, h⟩ := obind h
    simp only [↓askB_true, ↓askB_false, beq_self_eq_true, wz, Nat.reduceAdd, Nat.reduceSub, Nat.reduceMul, Nat.reduceBEq, Nat.reduceEqDiff, Nat.reduceLeDiff, Nat.reduceLT, reduceCtorEq, x25S0, Arc.e, Node.e, Pt.e, int1, bc1, x25, x25B]
    refine walk_Twice_L1_ok hx4 ?_ ?_
    · simp only [walk_Twice_L1R, ↓askB_true, ↓askB_false, beq_self_eq_true, wz, Nat.reduceAdd, Nat.reduceSub, Nat.reduceMul, Nat.reduceBEq, Nat.reduceEqDiff, Nat.reduceLeDiff, Nat.reduceLT, reduceCtorEq, x25S0, Arc.e, Node.e, Pt.e, int1, bc1, x25, x25B]
    intro tx f S hE
    rcases x4 with _u | i41
    · try dsimp only [sumK] at h
      obtain ⟨rfl, rfl, f4⟩ := hE
      cases h
      simp only [retG, ↓askB_true, ↓askB_false, beq_self_eq_true, wz, Nat.reduceAdd, Nat.reduceSub, Nat.reduceMul, Nat.reduceBEq, Nat.reduceEqDiff, Nat.reduceLeDiff, Nat.reduceLT, reduceCtorEq, x25S0, Arc.e, Node.e, Pt.e, int1, bc1, f4]
    · try dsimp only [sumK] at h
      obtain ⟨rfl, rfl, f5⟩ := hE
      cases h
      simp only [retG, ↓askB_true, ↓askB_false, beq_self_eq_true, wz, Nat.reduceAdd, Nat.reduceSub, Nat.reduceMul, Nat.reduceBEq, Nat.reduceEqDiff, Nat.reduceLeDiff, Nat.reduceLT, reduceCtorEq, x25S0, Arc.e, Node.e, Pt.e, int1, bc1, f5]

noncomputable def walk_Twice_fam : Fam := famC prog cfg (famT walk_Twice_fams) 25
theorem walk_Twice_val {a0 : Plan} {a1 : List Int} {r : Int} (h : walk_Twice a0 a1 = some r) : walk_Twice_fam.val [.agg [.r (.lst (List.map Node.e a0.nodes) none), .r (.lst (List.map Arc.e a0.arcs) none), .r (.lst (List.map int1 a0.faces) none)], .r (.lst (List.map int1 a1) none)] = some (.flat (I r)) := famC_flat (walk_Twice_ok h) rfl rfl
def walk_Twice_At (fams : List Fam) : Prop := ∀  {a0 : Plan} {a1 : List Int} {r : Int} {xs_ : List TV} {os os1 : List TO}, walk_Twice a0 a1 = some r → argsT false (E0 os) xs_ = some ([.agg [.r (.lst (List.map Node.e a0.nodes) none), .r (.lst (List.map Arc.e a0.arcs) none), .r (.lst (List.map int1 a0.faces) none)], .r (.lst (List.map int1 a1) none)], E0 os1) → callX prog cfg (famT fams) 25 xs_ (E0 os) = some (I r, E0 os1, none)
theorem walk_Twice_goods : ∀ x, x ∈ walk_Twice_fams → x.Good prog := (goodsC walk_arc_good (goodsC plan_Path_good goods0))
theorem walk_Twice_good : walk_Twice_fam.Good prog := famC_good sound walk_Twice_goods
/- 70: mapsheets/mapsheetsref15.arc -/
noncomputable def r15_arc_fams : List Fam := []
def r15_arc_L0b (a0 : Plan) (a1 : Int) : Int × Int × Int × (List Pt) × Int × Int × Int → Option ((Int × Int × Int × (List Pt) × Int × Int × Int) ⊕ ((Int × Int × Int × (List Pt) × Int × Int × Bool) ⊕ (Int × Int × Int × (List Pt) × Int × Int))) := fun (i8, i9, i10, l2, i11, i12, i13) => (if i13 < ((a0.arcs.length : Int)) then ((at_ a0.arcs i13).bind fun e3 => (if e3.id = a1 then some (.inr (Sum.inl (e3.id, e3.frm, e3.to, e3.via, e3.left, e3.right, false))) else (if e3.id = (w64 (0 - a1)) then some (.inr (Sum.inl (e3.id, e3.frm, e3.to, e3.via, e3.left, e3.right, true))) else some (.inl (i8, i9, i10, l2, i11, i12, w64 (i13 + 1)))))) else some (.inr (Sum.inr (i8, i9, i10, l2, i11, i12))))
def r15_arc_L0R (a0 : Plan) (a1 : Int) : Int × Int × Int × (List Pt) × Int × Int × Int → Fr → TS → Prop := fun (i8, i9, i10, l2, i11, i12, i13) f S => ∃ os v2, S = E0 os ∧ OsOk os ∧ Acc os 2 v2 (List.map Pt.e l2) ∧ f 1 = I a1 ∧ f 2 = .lv [.r (.lst (List.map Node.e a0.nodes) none), .r (.lst (List.map Arc.e a0.arcs) none), .r (.lst (List.map int1 a0.faces) none)] ∧ f 4 = .lv [I i8, I i9, I i10, v2, I i11, I i12] ∧ f 7 = I i13
def r15_arc_L0E (a0 : Plan) (a1 : Int) : ((Int × Int × Int × (List Pt) × Int × Int × Bool) ⊕ (Int × Int × Int × (List Pt) × Int × Int)) → TX → Fr → TS → Prop
  | (Sum.inl (i15, i16, i17, l3, i18, i19, b_1)), tx, f, S => tx = TX.ret ∧ ∃ os, S = E0 os ∧ OsOk os ∧ f 4 = .lv [I i15, I i16, I i17, .r (.lst (List.map Pt.e l3) none), I i18, I i19] ∧ f 5 = B b_1 ∧ f 6 = B true
  | (Sum.inr (i20, i21, i22, l4, i23, i24)), tx, f, S => tx = TX.exit 0 ∧ ∃ os v3, S = E0 os ∧ OsOk os ∧ Acc os 2 v3 (List.map Pt.e l4) ∧ f 4 = .lv [I i20, I i21, I i22, v3, I i23, I i24]
noncomputable def r15_arc_L0 (a0 : Plan) (a1 : Int) (s : Int × Int × Int × (List Pt) × Int × Int × Int) : Option ((Int × Int × Int × (List Pt) × Int × Int × Bool) ⊕ (Int × Int × Int × (List Pt) × Int × Int)) := loopO (r15_arc_L0b a0 a1) s
theorem r15_arc_L0_ok {a0 : Plan} {a1 : Int} {s : Int × Int × Int × (List Pt) × Int × Int × Int} {r : (Int × Int × Int × (List Pt) × Int × Int × Bool) ⊕ (Int × Int × Int × (List Pt) × Int × Int)} {Q : TX → Fr → TS → Prop} (h : r15_arc_L0 a0 a1 s = some r) {f : Fr} {S : TS} (hR : r15_arc_L0R a0 a1 s f S) (hQ : ∀ tx f S, r15_arc_L0E a0 a1 r tx f S → Q tx f S) : wp prog [2, 4] (callX prog cfg (famT r15_arc_fams)) (.loop x70L0) Q f S := by
  refine wp_loopO x70L0.eq_1 ?_ h hR hQ
  clear hQ hR h
  intro s x f S h hR
  obtain ⟨i8, i9, i10, l2, i11, i12, i13⟩ := s
  obtain ⟨os3, v2, rfl, qos3, Av2, f1, f2, f4, f7⟩ := hR
  have bv2 := Av2.rd.b
  unfold r15_arc_L0b at h
  try dsimp only at h
  by_cases c7 : i13 < ((a0.arcs.length : Int))
  · have bc7 : (decide (i13 < ((a0.arcs.length : Int)))) = true := decT c7
    rw [if_pos c7] at h
    obtain ⟨e3, he3, h⟩ := obind h
    have i25 := indexSl_at (enc := Arc.e) he3 (sz := 6) rfl
    by_cases c8 : e3.id = a1
    · have bc8 : (e3.id == a1) = true := beqT c8
      rw [if_pos c8] at h
      cases h
      simp only [stepQ_exit, stepQ_ret, ↓askB_true, ↓askB_false, beq_self_eq_true, wz, Nat.reduceAdd, Nat.reduceSub, Nat.reduceMul, Nat.reduceBEq, Nat.reduceEqDiff, Nat.reduceLeDiff, Nat.reduceLT, reduceCtorEq, Arc.e, Node.e, Pt.e, int1, bv2, f1, f2, f4, f7, bc7, i25, bc8]
      unfold r15_arc_L0E
      refine ⟨rfl, ?_⟩
      refine ⟨os3, rfl, qos3, ?_⟩
      simp only [↓askB_true, ↓askB_false, beq_self_eq_true, wz, Nat.reduceAdd, Nat.reduceSub, Nat.reduceMul, Nat.reduceBEq, Nat.reduceEqDiff, Nat.reduceLeDiff, Nat.reduceLT, reduceCtorEq, Arc.e, Node.e, Pt.e, int1, bv2, f1, f2, f4, f7, bc7, i25, bc8]
    · have bc8 : (e3.id == a1) = false := beqF c8
      rw [if_neg c8] at h
      by_cases c9 : e3.id = (w64 (0 - a1))
      · have bc9 : (e3.id == (w64 (0 - a1))) = true := beqT c9
        rw [if_pos c9] at h
        cases h
        simp only [stepQ_exit, stepQ_ret, ↓askB_true, ↓askB_false, beq_self_eq_true, wz, Nat.reduceAdd, Nat.reduceSub, Nat.reduceMul, Nat.reduceBEq, Nat.reduceEqDiff, Nat.reduceLeDiff, Nat.reduceLT, reduceCtorEq, Arc.e, Node.e, Pt.e, int1, bv2, f1, f2, f4, f7, bc7, i25, bc8, bc9]
        unfold r15_arc_L0E
        refine ⟨rfl, ?_⟩
        refine ⟨os3, rfl, qos3, ?_⟩
        simp only [↓askB_true, ↓askB_false, beq_self_eq_true, wz, Nat.reduceAdd, Nat.reduceSub, Nat.reduceMul, Nat.reduceBEq, Nat.reduceEqDiff, Nat.reduceLeDiff, Nat.reduceLT, reduceCtorEq, Arc.e, Node.e, Pt.e, int1, bv2, f1, f2, f4, f7, bc7, i25, bc8, bc9]
      · have bc9 : (e3.id == (w64 (0 - a1))) = false := beqF c9
        rw [if_neg c9] at h
        cases h
        simp only [stepQ_normal, ↓askB_true, ↓askB_false, beq_self_eq_true, wz, Nat.reduceAdd, Nat.reduceSub, Nat.reduceMul, Nat.reduceBEq, Nat.reduceEqDiff, Nat.reduceLeDiff, Nat.reduceLT, reduceCtorEq, Arc.e, Node.e, Pt.e, int1, bv2, f1, f2, f4, f7, bc7, i25, bc8, bc9]
        unfold r15_arc_L0R
        refine ⟨os3, v2, rfl, qos3, Av2, ?_⟩
        simp only [↓askB_true, ↓askB_false, beq_self_eq_true, wz, Nat.reduceAdd, Nat.reduceSub, Nat.reduceMul, Nat.reduceBEq, Nat.reduceEqDiff, Nat.reduceLeDiff, Nat.reduceLT, reduceCtorEq, Arc.e, Node.e, Pt.e, int1, bv2, f1, f2, f4, f7, bc7, i25, bc8, bc9]
  · have bc7 : (decide (i13 < ((a0.arcs.length : Int)))) = false := decF c7
    rw [if_neg c7] at h
    cases h
    simp only [stepQ_exit, stepQ_ret, ↓askB_true, ↓askB_false, beq_self_eq_true, wz, Nat.reduceAdd, Nat.reduceSub, Nat.reduceMul, Nat.reduceBEq, Nat.reduceEqDiff, Nat.reduceLeDiff, Nat.reduceLT, reduceCtorEq, Arc.e, Node.e, Pt.e, int1, bv2, f1, f2, f4, f7, bc7]
    unfold r15_arc_L0E
    refine ⟨rfl, ?_⟩
    refine ⟨os3, v2, rfl, qos3, Av2, ?_⟩
    simp only [↓askB_true, ↓askB_false, beq_self_eq_true, wz, Nat.reduceAdd, Nat.reduceSub, Nat.reduceMul, Nat.reduceBEq, Nat.reduceEqDiff, Nat.reduceLeDiff, Nat.reduceLT, reduceCtorEq, Arc.e, Node.e, Pt.e, int1, bv2, f1, f2, f4, f7, bc7]

noncomputable def r15_arc (a0 : Plan) (a1 : Int) : Option (Arc × Bool × Bool) := ((r15_arc_L0 a0 a1 (0, 0, 0, ([] : List Pt), 0, 0, 0)).bind (fun x1 => sumK x1 (fun (i26, i27, i28, l5, i29, i30, b_2) => some ((Arc.mk i26 i27 i28 l5 i29 i30), b_2, true)) (fun (i31, i32, i33, l6, i34, i35) => some ((Arc.mk 0 0 0 (([] : List Pt)) 0 0), false, false))))
theorem r15_arc_ok {a0 : Plan} {a1 : Int} {r : Arc × Bool × Bool} (h : r15_arc a0 a1 = some r) : callL prog cfg (famT r15_arc_fams) 70 [.agg [.r (.lst (List.map Node.e a0.nodes) none), .r (.lst (List.map Arc.e a0.arcs) none), .r (.lst (List.map int1 a0.faces) none)], I a1] (E0 []) = some (.tup [.agg [I r.1.id, I r.1.frm, I r.1.to, .r (.lst (List.map Pt.e r.1.via) none), I r.1.left, I r.1.right], B r.2.1, B r.2.2], E0 [], none) := by
  refine callL_wpG cx70 (ax := [.agg [.r (.lst (List.map Node.e a0.nodes) none), .r (.lst (List.map Arc.e a0.arcs) none), .r (.lst (List.map int1 a0.faces) none)], I a1]) rfl rfl ?_
  unfold r15_arc at h
  try dsimp only at h
  obtain ⟨x1, hx1, h⟩ := obind h
  simp only [↓askB_true, ↓askB_false, beq_self_eq_true, wz, Nat.reduceAdd, Nat.reduceSub, Nat.reduceMul, Nat.reduceBEq, Nat.reduceEqDiff, Nat.reduceLeDiff, Nat.reduceLT, reduceCtorEq, Arc.e, Node.e, Pt.e, int1, x70, x70B]
  refine r15_arc_L0_ok hx1 ?_ ?_
  · unfold r15_arc_L0R
    refine ⟨[], nilT, rfl, osok0, Acc.nil, ?_⟩
    simp only [↓askB_true, ↓askB_false, beq_self_eq_true, wz, Nat.reduceAdd, Nat.reduceSub, Nat.reduceMul, Nat.reduceBEq, Nat.reduceEqDiff, Nat.reduceLeDiff, Nat.reduceLT, reduceCtorEq, Arc.e, Node.e, Pt.e, int1, x70, x70B]
  intro tx f S hE
  rcases x1 with ⟨i26, i27, i28, l5, i29, i30, b_2⟩ | ⟨i31, i32, i33, l6, i34, i35⟩
  · try dsimp only [sumK] at h
    obtain ⟨rfl, os4, rfl, qos4, f4, f5, f6⟩ := hE
    cases h
    have hleak := leaks_0 os4 0
    simp only [retG, hleak, ↓askB_true, ↓askB_false, beq_self_eq_true, wz, Nat.reduceAdd, Nat.reduceSub, Nat.reduceMul, Nat.reduceBEq, Nat.reduceEqDiff, Nat.reduceLeDiff, Nat.reduceLT, reduceCtorEq, Arc.e, Node.e, Pt.e, int1, f4, f5, f6]
  · try dsimp only [sumK] at h
    obtain ⟨rfl, os5, v4, rfl, qos5, Av4, f4⟩ := hE
    have bv4 := Av4.rd.b
    cases h
    have hleak := leaks_0 os5 0
    simp only [retG, hleak, ↓askB_true, ↓askB_false, beq_self_eq_true, wz, Nat.reduceAdd, Nat.reduceSub, Nat.reduceMul, Nat.reduceBEq, Nat.reduceEqDiff, Nat.reduceLeDiff, Nat.reduceLT, reduceCtorEq, Arc.e, Node.e, Pt.e, int1, bv4, f4]

noncomputable def r15_arc_fam : Fam := famC prog cfg (famT r15_arc_fams) 70
theorem r15_arc_val {a0 : Plan} {a1 : Int} {r : Arc × Bool × Bool} (h : r15_arc a0 a1 = some r) : r15_arc_fam.val [.agg [.r (.lst (List.map Node.e a0.nodes) none), .r (.lst (List.map Arc.e a0.arcs) none), .r (.lst (List.map int1 a0.faces) none)], I a1] = some (.flat (.tup [.agg [I r.1.id, I r.1.frm, I r.1.to, .r (.lst (List.map Pt.e r.1.via) none), I r.1.left, I r.1.right], B r.2.1, B r.2.2])) := famC_flat (r15_arc_ok h) rfl rfl
def r15_arc_At (fams : List Fam) : Prop := ∀  {a0 : Plan} {a1 : Int} {r : Arc × Bool × Bool} {xs_ : List TV} {os os1 : List TO}, r15_arc a0 a1 = some r → argsT false (E0 os) xs_ = some ([.agg [.r (.lst (List.map Node.e a0.nodes) none), .r (.lst (List.map Arc.e a0.arcs) none), .r (.lst (List.map int1 a0.faces) none)], I a1], E0 os1) → callX prog cfg (famT fams) 70 xs_ (E0 os) = some (.tup [.agg [I r.1.id, I r.1.frm, I r.1.to, .r (.lst (List.map Pt.e r.1.via) none), I r.1.left, I r.1.right], B r.2.1, B r.2.2], E0 os1, none)
theorem r15_arc_goods : ∀ x, x ∈ r15_arc_fams → x.Good prog := goods0
theorem r15_arc_good : r15_arc_fam.Good prog := famC_good sound r15_arc_goods
/- 40: mapsheets/mapsheetsref15.valid -/
noncomputable def r15_valid_fams : List Fam := [r15_arc_fam]
noncomputable def r15_valid (a0 : Plan) (a1 : Int) : Option (Bool) := ((r15_arc a0 a1).bind fun y1 => (if y1.2.2 = true then some (a1 != 0) else some false))
theorem r15_valid_ok {a0 : Plan} {a1 : Int} {r : Bool} (h : r15_valid a0 a1 = some r) : callL prog cfg (famT r15_valid_fams) 40 [.agg [.r (.lst (List.map Node.e a0.nodes) none), .r (.lst (List.map Arc.e a0.arcs) none), .r (.lst (List.map int1 a0.faces) none)], I a1] (E0 []) = some (B r, E0 [], none) := by
  refine callL_wpG cx40 (ax := [.agg [.r (.lst (List.map Node.e a0.nodes) none), .r (.lst (List.map Arc.e a0.arcs) none), .r (.lst (List.map int1 a0.faces) none)], I a1]) rfl rfl ?_
  unfold r15_valid at h
  try dsimp only at h
  obtain ⟨y1, hy1, h⟩ := obind h
  have g1 : ∀ os, callX prog cfg (famT r15_valid_fams) 70 [.agg [.r (.lst (List.map Node.e a0.nodes) none), .r (.lst (List.map Arc.e a0.arcs) none), .r (.lst (List.map int1 a0.faces) none)], I a1] (E0 os) = some (.tup [.agg [I y1.1.id, I y1.1.frm, I y1.1.to, .r (.lst (List.map Pt.e y1.1.via) none), I y1.1.left, I y1.1.right], B y1.2.1, B y1.2.2], E0 os, none) := fun os => callX_fam rfl (famLook_hit rfl (r15_arc_val hy1))
  by_cases c1 : y1.2.2 = true
  · have bc1 : (y1.2.2) = true := id c1
    rw [if_pos c1] at h
    cases h
    simp only [retG, ↓askB_true, ↓askB_false, beq_self_eq_true, wz, Nat.reduceAdd, Nat.reduceSub, Nat.reduceMul, Nat.reduceBEq, Nat.reduceEqDiff, Nat.reduceLeDiff, Nat.reduceLT, reduceCtorEq, Arc.e, Node.e, Pt.e, int1, g1, bc1, x40, x40B]
  · have bc1 : (y1.2.2) = false := boolF c1
    rw [if_neg c1] at h
    cases h
    simp only [retG, ↓askB_true, ↓askB_false, beq_self_eq_true, wz, Nat.reduceAdd, Nat.reduceSub, Nat.reduceMul, Nat.reduceBEq, Nat.reduceEqDiff, Nat.reduceLeDiff, Nat.reduceLT, reduceCtorEq, Arc.e, Node.e, Pt.e, int1, g1, bc1, x40, x40B]

noncomputable def r15_valid_fam : Fam := famC prog cfg (famT r15_valid_fams) 40
theorem r15_valid_val {a0 : Plan} {a1 : Int} {r : Bool} (h : r15_valid a0 a1 = some r) : r15_valid_fam.val [.agg [.r (.lst (List.map Node.e a0.nodes) none), .r (.lst (List.map Arc.e a0.arcs) none), .r (.lst (List.map int1 a0.faces) none)], I a1] = some (.flat (B r)) := famC_flat (r15_valid_ok h) rfl rfl
def r15_valid_At (fams : List Fam) : Prop := ∀  {a0 : Plan} {a1 : Int} {r : Bool} {xs_ : List TV} {os os1 : List TO}, r15_valid a0 a1 = some r → argsT false (E0 os) xs_ = some ([.agg [.r (.lst (List.map Node.e a0.nodes) none), .r (.lst (List.map Arc.e a0.arcs) none), .r (.lst (List.map int1 a0.faces) none)], I a1], E0 os1) → callX prog cfg (famT fams) 40 xs_ (E0 os) = some (B r, E0 os1, none)
theorem r15_valid_goods : ∀ x, x ∈ r15_valid_fams → x.Good prog := (goodsC r15_arc_good goods0)
theorem r15_valid_good : r15_valid_fam.Good prog := famC_good sound r15_valid_goods
/- 32: mapsheets/mapsheetsref14.Arc -/
noncomputable def r14_Arc_fams : List Fam := []
def r14_Arc_L0b (a0 : Plan) (a1 : Int) : Int × Int × Int × (List Pt) × Int × Int × Int → Option ((Int × Int × Int × (List Pt) × Int × Int × Int) ⊕ ((Int × Int × Int × (List Pt) × Int × Int) ⊕ (Int × Int × Int × (List Pt) × Int × Int))) := fun (i8, i9, i10, l3, i11, i12, i13) => (if i13 < ((a0.arcs.length : Int)) then ((at_ a0.arcs i13).bind fun e3 => (if e3.id = a1 then ((appO 16 (([] : List Pt)) e3.via).bind fun l7 => some (.inr (Sum.inl (e3.id, e3.frm, e3.to, l7, e3.left, e3.right)))) else some (.inl (i8, i9, i10, l3, i11, i12, w64 (i13 + 1))))) else some (.inr (Sum.inr (i8, i9, i10, l3, i11, i12))))
def r14_Arc_L0R (a0 : Plan) (a1 : Int) : Int × Int × Int × (List Pt) × Int × Int × Int → Fr → TS → Prop := fun (i8, i9, i10, l3, i11, i12, i13) f S => ∃ os v3, S = E0 os ∧ OsOk os ∧ Acc os 2 v3 (List.map Pt.e l3) ∧ f 1 = I a1 ∧ f 2 = .lv [.r (.lst (List.map Node.e a0.nodes) none), .r (.lst (List.map Arc.e a0.arcs) none), .r (.lst (List.map int1 a0.faces) none)] ∧ f 4 = .lv [I i8, I i9, I i10, v3, I i11, I i12] ∧ f 6 = I i13
def r14_Arc_L0E (a0 : Plan) (a1 : Int) : ((Int × Int × Int × (List Pt) × Int × Int) ⊕ (Int × Int × Int × (List Pt) × Int × Int)) → TX → Fr → TS → Prop
  | (Sum.inl (i15, i16, i17, l5, i18, i19)), tx, f, S => tx = TX.ret ∧ ∃ os v5, S = E0 os ∧ OsOk os ∧ AccL os 2 v5 (List.map Pt.e l5) ∧ f 4 = .lv [I i15, I i16, I i17, v5, I i18, I i19] ∧ f 5 = B true
  | (Sum.inr (i20, i21, i22, l6, i23, i24)), tx, f, S => tx = TX.exit 0 ∧ ∃ os v6, S = E0 os ∧ OsOk os ∧ Acc os 2 v6 (List.map Pt.e l6) ∧ f 4 = .lv [I i20, I i21, I i22, v6, I i23, I i24]
noncomputable def r14_Arc_L0 (a0 : Plan) (a1 : Int) (s : Int × Int × Int × (List Pt) × Int × Int × Int) : Option ((Int × Int × Int × (List Pt) × Int × Int) ⊕ (Int × Int × Int × (List Pt) × Int × Int)) := loopO (r14_Arc_L0b a0 a1) s
theorem r14_Arc_L0_ok {a0 : Plan} {a1 : Int} {s : Int × Int × Int × (List Pt) × Int × Int × Int} {r : (Int × Int × Int × (List Pt) × Int × Int) ⊕ (Int × Int × Int × (List Pt) × Int × Int)} {Q : TX → Fr → TS → Prop} (h : r14_Arc_L0 a0 a1 s = some r) {f : Fr} {S : TS} (hR : r14_Arc_L0R a0 a1 s f S) (hQ : ∀ tx f S, r14_Arc_L0E a0 a1 r tx f S → Q tx f S) : wp prog [2, 4, 7] (callX prog cfg (famT r14_Arc_fams)) (.loop x32L0) Q f S := by
  refine wp_loopO x32L0.eq_1 ?_ h hR hQ
  clear hQ hR h
  intro s x f S h hR
  obtain ⟨i8, i9, i10, l3, i11, i12, i13⟩ := s
  obtain ⟨os5, v3, rfl, qos5, Av3, f1, f2, f4, f6⟩ := hR
  have bv3 := Av3.rd.b
  unfold r14_Arc_L0b at h
  try dsimp only at h
  by_cases c5 : i13 < ((a0.arcs.length : Int))
  · have bc5 : (decide (i13 < ((a0.arcs.length : Int)))) = true := decT c5
    rw [if_pos c5] at h
    obtain ⟨e3, he3, h⟩ := obind h
    have i25 := indexSl_at (enc := Arc.e) he3 (sz := 6) rfl
    by_cases c6 : e3.id = a1
    · have bc6 : (e3.id == a1) = true := beqT c6
      rw [if_pos c6] at h
      obtain ⟨l7, hl7, h⟩ := obind h
      obtain ⟨v7, w3, os6, hw3, sw3, fw3, kw3, Av7l, qos6, sbw3, kcw3, kbw3, kaw3, krw3⟩ := AccL.appT (os := os5) (v := (.r (.lst [] (some 0)))) (x := .r (.lst (List.map Pt.e e3.via) none)) (xs := ([] : List Pt)) (ys := e3.via) Pt.eok hl7 (AccL.lit _ rfl) qos5 rfl
      have bv7 := Av7l.rd.b
      replace kw3 := zeroEk_out kw3
      have A3 := kbw3 _ _ _ sep_r Av3
      cases h
      simp only [stepQ_exit, stepQ_ret, ↓askB_true, ↓askB_false, beq_self_eq_true, wz, Nat.reduceAdd, Nat.reduceSub, Nat.reduceMul, Nat.reduceBEq, Nat.reduceEqDiff, Nat.reduceLeDiff, Nat.reduceLT, reduceCtorEq, Arc.e, Node.e, Pt.e, int1, bv3, f1, f2, f4, f6, bc5, i25, bc6, hw3, sw3, fw3, kw3, bv7]
      unfold r14_Arc_L0E
      refine ⟨rfl, ?_⟩
      refine ⟨os6, v7, rfl, qos6, Av7l, ?_⟩
      simp only [↓askB_true, ↓askB_false, beq_self_eq_true, wz, Nat.reduceAdd, Nat.reduceSub, Nat.reduceMul, Nat.reduceBEq, Nat.reduceEqDiff, Nat.reduceLeDiff, Nat.reduceLT, reduceCtorEq, Arc.e, Node.e, Pt.e, int1, bv3, f1, f2, f4, f6, bc5, i25, bc6, hw3, sw3, fw3, kw3, bv7]
    · have bc6 : (e3.id == a1) = false := beqF c6
      rw [if_neg c6] at h
      cases h
      simp only [stepQ_normal, ↓askB_true, ↓askB_false, beq_self_eq_true, wz, Nat.reduceAdd, Nat.reduceSub, Nat.reduceMul, Nat.reduceBEq, Nat.reduceEqDiff, Nat.reduceLeDiff, Nat.reduceLT, reduceCtorEq, Arc.e, Node.e, Pt.e, int1, bv3, f1, f2, f4, f6, bc5, i25, bc6]
      unfold r14_Arc_L0R
      refine ⟨os5, v3, rfl, qos5, Av3, ?_⟩
      simp only [↓askB_true, ↓askB_false, beq_self_eq_true, wz, Nat.reduceAdd, Nat.reduceSub, Nat.reduceMul, Nat.reduceBEq, Nat.reduceEqDiff, Nat.reduceLeDiff, Nat.reduceLT, reduceCtorEq, Arc.e, Node.e, Pt.e, int1, bv3, f1, f2, f4, f6, bc5, i25, bc6]
  · have bc5 : (decide (i13 < ((a0.arcs.length : Int)))) = false := decF c5
    rw [if_neg c5] at h
    cases h
    simp only [stepQ_exit, stepQ_ret, ↓askB_true, ↓askB_false, beq_self_eq_true, wz, Nat.reduceAdd, Nat.reduceSub, Nat.reduceMul, Nat.reduceBEq, Nat.reduceEqDiff, Nat.reduceLeDiff, Nat.reduceLT, reduceCtorEq, Arc.e, Node.e, Pt.e, int1, bv3, f1, f2, f4, f6, bc5]
    unfold r14_Arc_L0E
    refine ⟨rfl, ?_⟩
    refine ⟨os5, v3, rfl, qos5, Av3, ?_⟩
    simp only [↓askB_true, ↓askB_false, beq_self_eq_true, wz, Nat.reduceAdd, Nat.reduceSub, Nat.reduceMul, Nat.reduceBEq, Nat.reduceEqDiff, Nat.reduceLeDiff, Nat.reduceLT, reduceCtorEq, Arc.e, Node.e, Pt.e, int1, bv3, f1, f2, f4, f6, bc5]

noncomputable def r14_Arc (a0 : Plan) (a1 : Int) : Option (Arc × Bool) := ((r14_Arc_L0 a0 a1 (0, 0, 0, ([] : List Pt), 0, 0, 0)).bind (fun x1 => sumK x1 (fun (i26, i27, i28, l8, i29, i30) => some ((Arc.mk i26 i27 i28 l8 i29 i30), true)) (fun (i31, i32, i33, l9, i34, i35) => some ((Arc.mk 0 0 0 (([] : List Pt)) 0 0), false))))
theorem r14_Arc_ok {a0 : Plan} {a1 : Int} {r : Arc × Bool} (h : r14_Arc a0 a1 = some r) : callL prog cfg (famT r14_Arc_fams) 32 [.agg [.r (.lst (List.map Node.e a0.nodes) none), .r (.lst (List.map Arc.e a0.arcs) none), .r (.lst (List.map int1 a0.faces) none)], I a1] (E0 []) = some (.tup [.agg [I r.1.id, I r.1.frm, I r.1.to, .r (.lst (List.map Pt.e r.1.via) none), I r.1.left, I r.1.right], B r.2], E0 [], none) := by
  refine callL_wpG cx32 (ax := [.agg [.r (.lst (List.map Node.e a0.nodes) none), .r (.lst (List.map Arc.e a0.arcs) none), .r (.lst (List.map int1 a0.faces) none)], I a1]) rfl rfl ?_
  unfold r14_Arc at h
  try dsimp only at h
  obtain ⟨x1, hx1, h⟩ := obind h
  simp only [↓askB_true, ↓askB_false, beq_self_eq_true, wz, Nat.reduceAdd, Nat.reduceSub, Nat.reduceMul, Nat.reduceBEq, Nat.reduceEqDiff, Nat.reduceLeDiff, Nat.reduceLT, reduceCtorEq, Arc.e, Node.e, Pt.e, int1, x32, x32B]
  refine r14_Arc_L0_ok hx1 ?_ ?_
  · unfold r14_Arc_L0R
    refine ⟨[], nilT, rfl, osok0, Acc.nil, ?_⟩
    simp only [↓askB_true, ↓askB_false, beq_self_eq_true, wz, Nat.reduceAdd, Nat.reduceSub, Nat.reduceMul, Nat.reduceBEq, Nat.reduceEqDiff, Nat.reduceLeDiff, Nat.reduceLT, reduceCtorEq, Arc.e, Node.e, Pt.e, int1, x32, x32B]
  intro tx f S hE
  rcases x1 with ⟨i26, i27, i28, l8, i29, i30⟩ | ⟨i31, i32, i33, l9, i34, i35⟩
  · try dsimp only [sumK] at h
    obtain ⟨rfl, os7, v8, rfl, qos7, Av8, f4, f5⟩ := hE
    have bv8 := Av8.rd.b
    cases h
    simp only [↓askB_true, ↓askB_false, beq_self_eq_true, wz, Nat.reduceAdd, Nat.reduceSub, Nat.reduceMul, Nat.reduceBEq, Nat.reduceEqDiff, Nat.reduceLeDiff, Nat.reduceLT, reduceCtorEq, Arc.e, Node.e, Pt.e, int1, bv8, f4, f5]
    obtain ⟨os8, zos8, kzos8, qos8⟩ := Av8.rd.frz qos7
    have A4 := kzos8.acc _ _ _ Av8
    refine retG_of (vs := [.agg [I i26, I i27, I i28, v8, I i29, I i30], B true]) (resF_cons (by simp only [↓askB_true, ↓askB_false, beq_self_eq_true, wz, Nat.reduceAdd, Nat.reduceSub, Nat.reduceMul, Nat.reduceBEq, Nat.reduceEqDiff, Nat.reduceLeDiff, Nat.reduceLT, reduceCtorEq, Arc.e, Node.e, Pt.e, int1, bv8, f4, f5]) (resF_cons (by simp only [↓askB_true, ↓askB_false, beq_self_eq_true, wz, Nat.reduceAdd, Nat.reduceSub, Nat.reduceMul, Nat.reduceBEq, Nat.reduceEqDiff, Nat.reduceLeDiff, Nat.reduceLT, reduceCtorEq, Arc.e, Node.e, Pt.e, int1, bv8, f4, f5]) resF_nil)) (freezeVs_cons (freezeV_agg (freezeL_cons rfl (freezeL_cons rfl (freezeL_cons rfl (freezeL_cons zos8 (freezeL_cons rfl (freezeL_cons rfl rfl))))))) (freezeVs_cons rfl rfl))
  · try dsimp only [sumK] at h
    obtain ⟨rfl, os9, v9, rfl, qos9, Av9, f4⟩ := hE
    have bv9 := Av9.rd.b
    cases h
    have hleak := leaks_0 os9 0
    simp only [retG, hleak, ↓askB_true, ↓askB_false, beq_self_eq_true, wz, Nat.reduceAdd, Nat.reduceSub, Nat.reduceMul, Nat.reduceBEq, Nat.reduceEqDiff, Nat.reduceLeDiff, Nat.reduceLT, reduceCtorEq, Arc.e, Node.e, Pt.e, int1, bv9, f4]

noncomputable def r14_Arc_fam : Fam := famC prog cfg (famT r14_Arc_fams) 32
theorem r14_Arc_val {a0 : Plan} {a1 : Int} {r : Arc × Bool} (h : r14_Arc a0 a1 = some r) : r14_Arc_fam.val [.agg [.r (.lst (List.map Node.e a0.nodes) none), .r (.lst (List.map Arc.e a0.arcs) none), .r (.lst (List.map int1 a0.faces) none)], I a1] = some (.flat (.tup [.agg [I r.1.id, I r.1.frm, I r.1.to, .r (.lst (List.map Pt.e r.1.via) none), I r.1.left, I r.1.right], B r.2])) := famC_flat (r14_Arc_ok h) rfl rfl
def r14_Arc_At (fams : List Fam) : Prop := ∀  {a0 : Plan} {a1 : Int} {r : Arc × Bool} {xs_ : List TV} {os os1 : List TO}, r14_Arc a0 a1 = some r → argsT false (E0 os) xs_ = some ([.agg [.r (.lst (List.map Node.e a0.nodes) none), .r (.lst (List.map Arc.e a0.arcs) none), .r (.lst (List.map int1 a0.faces) none)], I a1], E0 os1) → callX prog cfg (famT fams) 32 xs_ (E0 os) = some (.tup [.agg [I r.1.id, I r.1.frm, I r.1.to, .r (.lst (List.map Pt.e r.1.via) none), I r.1.left, I r.1.right], B r.2], E0 os1, none)
theorem r14_Arc_goods : ∀ x, x ∈ r14_Arc_fams → x.Good prog := goods0
theorem r14_Arc_good : r14_Arc_fam.Good prog := famC_good sound r14_Arc_goods
/- 85: mapsheets/mapsheetsref14.Path -/
noncomputable def r14_Path_fams : List Fam := [r14_Arc_fam, r14_line_fam]
noncomputable def r14_Path (a0 : Plan) (a1 : Int) : Option ((List Pt) × Int) := ((r14_Arc a0 a1).bind fun y1 => (if y1.2 = true then ((r14_line a0 y1.1).bind fun y2 => (if y2.2 = true then some (y2.1, 0) else some (([] : List Pt), 7))) else some (([] : List Pt), 7)))
theorem r14_Path_ok {a0 : Plan} {a1 : Int} {r : (List Pt) × Int} (h : r14_Path a0 a1 = some r) : callL prog cfg (famT r14_Path_fams) 85 [.agg [.r (.lst (List.map Node.e a0.nodes) none), .r (.lst (List.map Arc.e a0.arcs) none), .r (.lst (List.map int1 a0.faces) none)], I a1] (E0 []) = some (.tup [.r (.lst (List.map Pt.e r.1) none), I r.2], E0 [], none) := by
  refine callL_wpG cx85 (ax := [.agg [.r (.lst (List.map Node.e a0.nodes) none), .r (.lst (List.map Arc.e a0.arcs) none), .r (.lst (List.map int1 a0.faces) none)], I a1]) rfl rfl ?_
  unfold r14_Path at h
  try dsimp only at h
  obtain ⟨y1, hy1, h⟩ := obind h
  have g1 : ∀ os, callX prog cfg (famT r14_Path_fams) 32 [.agg [.r (.lst (List.map Node.e a0.nodes) none), .r (.lst (List.map Arc.e a0.arcs) none), .r (.lst (List.map int1 a0.faces) none)], I a1] (E0 os) = some (.tup [.agg [I y1.1.id, I y1.1.frm, I y1.1.to, .r (.lst (List.map Pt.e y1.1.via) none), I y1.1.left, I y1.1.right], B y1.2], E0 os, none) := fun os => callX_fam rfl (famLook_hit rfl (r14_Arc_val hy1))
  by_cases c1 : y1.2 = true
  · have bc1 : (y1.2) = true := id c1
    rw [if_pos c1] at h
    obtain ⟨y2, hy2, h⟩ := obind h
    have g2 : ∀ os, callX prog cfg (famT r14_Path_fams) 59 [.agg [.r (.lst (List.map Node.e a0.nodes) none), .r (.lst (List.map Arc.e a0.arcs) none), .r (.lst (List.map int1 a0.faces) none)], .agg [I y1.1.id, I y1.1.frm, I y1.1.to, .r (.lst (List.map Pt.e y1.1.via) none), I y1.1.left, I y1.1.right]] (E0 os) = some (.tup [.r (.lst (List.map Pt.e y2.1) none), B y2.2], E0 os, none) := fun os => callX_fam rfl (famLook_skip rfl <| famLook_hit rfl (r14_line_val hy2))
    by_cases c2 : y2.2 = true
    · have bc2 : (y2.2) = true := id c2
      rw [if_pos c2] at h
      cases h
      simp only [retG, ↓askB_true, ↓askB_false, beq_self_eq_true, wz, Nat.reduceAdd, Nat.reduceSub, Nat.reduceMul, Nat.reduceBEq, Nat.reduceEqDiff, Nat.reduceLeDiff, Nat.reduceLT, reduceCtorEq, Arc.e, Node.e, Pt.e, int1, g1, bc1, g2, bc2, x85, x85B]
    · have bc2 : (y2.2) = false := boolF c2
      rw [if_neg c2] at h
      cases h
      simp only [retG, ↓askB_true, ↓askB_false, beq_self_eq_true, wz, Nat.reduceAdd, Nat.reduceSub, Nat.reduceMul, Nat.reduceBEq, Nat.reduceEqDiff, Nat.reduceLeDiff, Nat.reduceLT, reduceCtorEq, Arc.e, Node.e, Pt.e, int1, g1, bc1, g2, bc2, x85, x85B]
  · have bc1 : (y1.2) = false := boolF c1
    rw [if_neg c1] at h
    cases h
    simp only [retG, ↓askB_true, ↓askB_false, beq_self_eq_true, wz, Nat.reduceAdd, Nat.reduceSub, Nat.reduceMul, Nat.reduceBEq, Nat.reduceEqDiff, Nat.reduceLeDiff, Nat.reduceLT, reduceCtorEq, Arc.e, Node.e, Pt.e, int1, g1, bc1, x85, x85B]

noncomputable def r14_Path_fam : Fam := famC prog cfg (famT r14_Path_fams) 85
theorem r14_Path_val {a0 : Plan} {a1 : Int} {r : (List Pt) × Int} (h : r14_Path a0 a1 = some r) : r14_Path_fam.val [.agg [.r (.lst (List.map Node.e a0.nodes) none), .r (.lst (List.map Arc.e a0.arcs) none), .r (.lst (List.map int1 a0.faces) none)], I a1] = some (.flat (.tup [.r (.lst (List.map Pt.e r.1) none), I r.2])) := famC_flat (r14_Path_ok h) rfl rfl
def r14_Path_At (fams : List Fam) : Prop := ∀  {a0 : Plan} {a1 : Int} {r : (List Pt) × Int} {xs_ : List TV} {os os1 : List TO}, r14_Path a0 a1 = some r → argsT false (E0 os) xs_ = some ([.agg [.r (.lst (List.map Node.e a0.nodes) none), .r (.lst (List.map Arc.e a0.arcs) none), .r (.lst (List.map int1 a0.faces) none)], I a1], E0 os1) → callX prog cfg (famT fams) 85 xs_ (E0 os) = some (.tup [.r (.lst (List.map Pt.e r.1) none), I r.2], E0 os1, none)
theorem r14_Path_goods : ∀ x, x ∈ r14_Path_fams → x.Good prog := (goodsC r14_Arc_good (goodsC r14_line_good goods0))
theorem r14_Path_good : r14_Path_fam.Good prog := famC_good sound r14_Path_goods
/- 49: mapsheets/mapsheetsref15.Path -/
noncomputable def r15_Path_fams : List Fam := [r14_Path_fam]
def r15_Path_L0b (y2 : (List Pt) × Int) : (List Pt) × Int → Option (((List Pt) × Int) ⊕ (((List Pt)))) := fun (l3, i3) => (if i3 ≥ 0 then ((at_ y2.1 i3).bind fun e3 => ((appO 16 l3 (([e3] : List Pt))).bind fun l6 => some (.inl (l6, w64 (i3 - 1))))) else some (.inr l3))
def r15_Path_L0R (y2 : (List Pt) × Int) : (List Pt) × Int → Fr → TS → Prop := fun (l3, i3) f S => ∃ os v3, S = E0 os ∧ OsOk os ∧ Acc os 2 v3 (List.map Pt.e l3) ∧ f 7 = .r (.lst (List.map Pt.e y2.1) none) ∧ f 9 = v3 ∧ f 10 = I i3
def r15_Path_L0E (y2 : (List Pt) × Int) : (((List Pt))) → TX → Fr → TS → Prop
  | l5, tx, f, S => tx = TX.exit 0 ∧ ∃ os v5, S = E0 os ∧ OsOk os ∧ Acc os 2 v5 (List.map Pt.e l5) ∧ f 9 = v5
noncomputable def r15_Path_L0 (y2 : (List Pt) × Int) (s : (List Pt) × Int) : Option (((List Pt))) := loopO (r15_Path_L0b y2) s
theorem r15_Path_L0_ok {y2 : (List Pt) × Int} {s : (List Pt) × Int} {r : ((List Pt))} {Q : TX → Fr → TS → Prop} (h : r15_Path_L0 y2 s = some r) {f : Fr} {S : TS} (hR : r15_Path_L0R y2 s f S) (hQ : ∀ tx f S, r15_Path_L0E y2 r tx f S → Q tx f S) : wp prog [2] (callX prog cfg (famT r15_Path_fams)) (.loop x49L0) Q f S := by
  refine wp_loopO x49L0.eq_1 ?_ h hR hQ
  clear hQ hR h
  intro s x f S h hR
  obtain ⟨l3, i3⟩ := s
  obtain ⟨os5, v3, rfl, qos5, Av3, f7, f9, f10⟩ := hR
  have bv3 := Av3.rd.b
  unfold r15_Path_L0b at h
  try dsimp only at h
  by_cases c4 : i3 ≥ 0
  · have bc4 : (decide (i3 ≥ 0)) = true := decT c4
    rw [if_pos c4] at h
    obtain ⟨e3, he3, h⟩ := obind h
    have i5 := indexSl_at (enc := Pt.e) he3 (sz := 2) rfl
    obtain ⟨l6, hl6, h⟩ := obind h
    obtain ⟨v6, w3, os6, hw3, sw3, fw3, kw3, Av6l, qos6, sbw3, kcw3, kbw3, kaw3, krw3⟩ := AccL.appT (os := os5) (v := v3) (x := .r (.lst [[cI e3.x, cI e3.y]] (some 1))) (xs := l3) (ys := ([e3] : List Pt)) Pt.eok hl6 Av3.l qos5 rfl
    have bv6 := Av6l.rd.b
    replace kw3 := zeroEk_out kw3
    have Av6 := kcw3 (Or.inl (by simp))
    cases h
    simp only [stepQ_normal, ↓askB_true, ↓askB_false, beq_self_eq_true, wz, Nat.reduceAdd, Nat.reduceSub, Nat.reduceMul, Nat.reduceBEq, Nat.reduceEqDiff, Nat.reduceLeDiff, Nat.reduceLT, reduceCtorEq, Arc.e, Node.e, Pt.e, int1, bv3, f7, f9, f10, bc4, i5, hw3, sw3, fw3, kw3, bv6]
    unfold r15_Path_L0R
    refine ⟨os6, v6, rfl, qos6, Av6, ?_⟩
    simp only [↓askB_true, ↓askB_false, beq_self_eq_true, wz, Nat.reduceAdd, Nat.reduceSub, Nat.reduceMul, Nat.reduceBEq, Nat.reduceEqDiff, Nat.reduceLeDiff, Nat.reduceLT, reduceCtorEq, Arc.e, Node.e, Pt.e, int1, bv3, f7, f9, f10, bc4, i5, hw3, sw3, fw3, kw3, bv6]
  · have bc4 : (decide (i3 ≥ 0)) = false := decF c4
    rw [if_neg c4] at h
    cases h
    simp only [stepQ_exit, stepQ_ret, ↓askB_true, ↓askB_false, beq_self_eq_true, wz, Nat.reduceAdd, Nat.reduceSub, Nat.reduceMul, Nat.reduceBEq, Nat.reduceEqDiff, Nat.reduceLeDiff, Nat.reduceLT, reduceCtorEq, Arc.e, Node.e, Pt.e, int1, bv3, f7, f9, f10, bc4]
    unfold r15_Path_L0E
    refine ⟨rfl, ?_⟩
    refine ⟨os5, v3, rfl, qos5, Av3, ?_⟩
    simp only [↓askB_true, ↓askB_false, beq_self_eq_true, wz, Nat.reduceAdd, Nat.reduceSub, Nat.reduceMul, Nat.reduceBEq, Nat.reduceEqDiff, Nat.reduceLeDiff, Nat.reduceLT, reduceCtorEq, Arc.e, Node.e, Pt.e, int1, bv3, f7, f9, f10, bc4]

noncomputable def r15_Path (a0 : Plan) (a1 : Int) : Option ((List Pt)) := (if a1 > 0 then ((r14_Path a0 a1).bind fun y1 => some y1.1) else ((r14_Path a0 (w64 (0 - a1))).bind fun y2 => ((r15_Path_L0 y2 (([] : List Pt), w64 (((y2.1.length : Int)) - 1))).bind (fun l7 => some l7))))
theorem r15_Path_ok {a0 : Plan} {a1 : Int} {r : (List Pt)} (h : r15_Path a0 a1 = some r) : callL prog cfg (famT r15_Path_fams) 49 [.agg [.r (.lst (List.map Node.e a0.nodes) none), .r (.lst (List.map Arc.e a0.arcs) none), .r (.lst (List.map int1 a0.faces) none)], I a1] (E0 []) = some (.r (.lst (List.map Pt.e r) none), E0 [], none) := by
  refine callL_wpG cx49 (ax := [.agg [.r (.lst (List.map Node.e a0.nodes) none), .r (.lst (List.map Arc.e a0.arcs) none), .r (.lst (List.map int1 a0.faces) none)], I a1]) rfl rfl ?_
  unfold r15_Path at h
  try dsimp only at h
  by_cases c1 : a1 > 0
  · have bc1 : (decide (a1 > 0)) = true := decT c1
    rw [if_pos c1] at h
    obtain ⟨y1, hy1, h⟩ := obind h
    have g1 : ∀ os, callX prog cfg (famT r15_Path_fams) 85 [.agg [.r (.lst (List.map Node.e a0.nodes) none), .r (.lst (List.map Arc.e a0.arcs) none), .r (.lst (List.map int1 a0.faces) none)], I a1] (E0 os) = some (.tup [.r (.lst (List.map Pt.e y1.1) none), I y1.2], E0 os, none) := fun os => callX_fam rfl (famLook_hit rfl (r14_Path_val hy1))
    cases h
    simp only [retG, ↓askB_true, ↓askB_false, beq_self_eq_true, wz, Nat.reduceAdd, Nat.reduceSub, Nat.reduceMul, Nat.reduceBEq, Nat.reduceEqDiff, Nat.reduceLeDiff, Nat.reduceLT, reduceCtorEq, Arc.e, Node.e, Pt.e, int1, bc1, g1, x49, x49B]
  · have bc1 : (decide (a1 > 0)) = false := decF c1
    rw [if_neg c1] at h
    obtain ⟨y2, hy2, h⟩ := obind h
    have g2 : ∀ os, callX prog cfg (famT r15_Path_fams) 85 [.agg [.r (.lst (List.map Node.e a0.nodes) none), .r (.lst (List.map Arc.e a0.arcs) none), .r (.lst (List.map int1 a0.faces) none)], I (w64 (0 - a1))] (E0 os) = some (.tup [.r (.lst (List.map Pt.e y2.1) none), I y2.2], E0 os, none) := fun os => callX_fam rfl (famLook_hit rfl (r14_Path_val hy2))
    obtain ⟨x1, hx1, h⟩ := obind h
    simp only [↓askB_true, ↓askB_false, beq_self_eq_true, wz, Nat.reduceAdd, Nat.reduceSub, Nat.reduceMul, Nat.reduceBEq, Nat.reduceEqDiff, Nat.reduceLeDiff, Nat.reduceLT, reduceCtorEq, Arc.e, Node.e, Pt.e, int1, bc1, g2, x49, x49B]
    refine r15_Path_L0_ok hx1 ?_ ?_
    · unfold r15_Path_L0R
      refine ⟨[], nilT, rfl, osok0, Acc.nil, ?_⟩
      simp only [↓askB_true, ↓askB_false, beq_self_eq_true, wz, Nat.reduceAdd, Nat.reduceSub, Nat.reduceMul, Nat.reduceBEq, Nat.reduceEqDiff, Nat.reduceLeDiff, Nat.reduceLT, reduceCtorEq, Arc.e, Node.e, Pt.e, int1, bc1, g2, x49, x49B]
    intro tx f S hE
    revert hx1 h hE; revert x1; intro l7 hx1 h hE
    try dsimp only [sumK] at h
    obtain ⟨rfl, os7, v7, rfl, qos7, Av7, f9⟩ := hE
    have bv7 := Av7.rd.b
    cases h
    simp only [↓askB_true, ↓askB_false, beq_self_eq_true, wz, Nat.reduceAdd, Nat.reduceSub, Nat.reduceMul, Nat.reduceBEq, Nat.reduceEqDiff, Nat.reduceLeDiff, Nat.reduceLT, reduceCtorEq, Arc.e, Node.e, Pt.e, int1, bc1, g2, bv7, f9]
    obtain ⟨os8, zos8, kzos8, qos8⟩ := Av7.rd.frz qos7
    have A1 := kzos8.own _ _ _ Av7
    refine retG_of (vs := [v7]) (resF_cons (resF1_of (by simp only [↓askB_true, ↓askB_false, beq_self_eq_true, wz, Nat.reduceAdd, Nat.reduceSub, Nat.reduceMul, Nat.reduceBEq, Nat.reduceEqDiff, Nat.reduceLeDiff, Nat.reduceLT, reduceCtorEq, Arc.e, Node.e, Pt.e, int1, bc1, g2, bv7, f9]) bv7.2.1) resF_nil) (freezeVs_cons (freezeV_rd Av7.rd zos8) rfl)

noncomputable def r15_Path_fam : Fam := famC prog cfg (famT r15_Path_fams) 49
theorem r15_Path_val {a0 : Plan} {a1 : Int} {r : (List Pt)} (h : r15_Path a0 a1 = some r) : r15_Path_fam.val [.agg [.r (.lst (List.map Node.e a0.nodes) none), .r (.lst (List.map Arc.e a0.arcs) none), .r (.lst (List.map int1 a0.faces) none)], I a1] = some (.flat (.r (.lst (List.map Pt.e r) none))) := famC_flat (r15_Path_ok h) rfl rfl
def r15_Path_At (fams : List Fam) : Prop := ∀  {a0 : Plan} {a1 : Int} {r : (List Pt)} {xs_ : List TV} {os os1 : List TO}, r15_Path a0 a1 = some r → argsT false (E0 os) xs_ = some ([.agg [.r (.lst (List.map Node.e a0.nodes) none), .r (.lst (List.map Arc.e a0.arcs) none), .r (.lst (List.map int1 a0.faces) none)], I a1], E0 os1) → callX prog cfg (famT fams) 49 xs_ (E0 os) = some (.r (.lst (List.map Pt.e r) none), E0 os1, none)
theorem r15_Path_goods : ∀ x, x ∈ r15_Path_fams → x.Good prog := (goodsC r14_Path_good goods0)
theorem r15_Path_good : r15_Path_fam.Good prog := famC_good sound r15_Path_goods
/- 26: mapsheets/mapsheetsref15.Twice -/
noncomputable def r15_Twice_fams : List Fam := [r15_valid_fam, r15_Path_fam]
def r15_Twice_L0b (a0 : Plan) (a1 : List Int) (i15 : Int) (y6 : (List Pt)) : Int × Int → Option ((Int × Int) ⊕ ((Int))) := fun (i33, i34) => (if i34 < ((y6.length : Int)) then ((at_ y6 (w64 (i34 - 1))).bind fun e16 => ((at_ y6 i34).bind fun e17 => some (.inl (w64 ((w64 (i33 + (w64 (e16.x * e17.y)))) - (w64 (e17.x * e16.y))), w64 (i34 + 1))))) else some (.inr i33))
def r15_Twice_L0R (a0 : Plan) (a1 : List Int) (i15 : Int) (y6 : (List Pt)) : Int × Int → Fr → TS → Prop := fun (i33, i34) f S => S = E0 [] ∧ f 1 = .r (.lst (List.map int1 a1) none) ∧ f 2 = .lv [.r (.lst (List.map Node.e a0.nodes) none), .r (.lst (List.map Arc.e a0.arcs) none), .r (.lst (List.map int1 a0.faces) none)] ∧ f 5 = I i33 ∧ f 6 = I i15 ∧ f 7 = .r (.lst (List.map Pt.e y6) none) ∧ f 8 = I i34
def r15_Twice_L0E (a0 : Plan) (a1 : List Int) (i15 : Int) (y6 : (List Pt)) : ((Int)) → TX → Fr → TS → Prop
  | i37, tx, f, S => tx = TX.exit 2 ∧ S = E0 [] ∧ f 1 = .r (.lst (List.map int1 a1) none) ∧ f 2 = .lv [.r (.lst (List.map Node.e a0.nodes) none), .r (.lst (List.map Arc.e a0.arcs) none), .r (.lst (List.map int1 a0.faces) none)] ∧ f 5 = I i37 ∧ f 6 = I i15
noncomputable def r15_Twice_L0 (a0 : Plan) (a1 : List Int) (i15 : Int) (y6 : (List Pt)) (s : Int × Int) : Option ((Int)) := loopO (r15_Twice_L0b a0 a1 i15 y6) s
theorem r15_Twice_L0_ok {a0 : Plan} {a1 : List Int} {i15 : Int} {y6 : (List Pt)} {s : Int × Int} {r : (Int)} {Q : TX → Fr → TS → Prop} (h : r15_Twice_L0 a0 a1 i15 y6 s = some r) {f : Fr} {S : TS} (hR : r15_Twice_L0R a0 a1 i15 y6 s f S) (hQ : ∀ tx f S, r15_Twice_L0E a0 a1 i15 y6 r tx f S → Q tx f S) : wp prog [2] (callX prog cfg (famT r15_Twice_fams)) (.loop x26L0) Q f S := by
  refine wp_loopO x26L0.eq_1 ?_ h hR hQ
  clear hQ hR h
  intro s x f S h hR
  obtain ⟨i33, i34⟩ := s
  obtain ⟨rfl, f1, f2, f5, f6, f7, f8⟩ := hR
  unfold r15_Twice_L0b at h
  try dsimp only at h
  by_cases c14 : i34 < ((y6.length : Int))
  · have bc14 : (decide (i34 < ((y6.length : Int)))) = true := decT c14
    rw [if_pos c14] at h
    obtain ⟨e16, he16, h⟩ := obind h
    have i38 := indexSl_at (enc := Pt.e) he16 (sz := 2) rfl
    obtain ⟨e17, he17, h⟩ := obind h
    have i39 := indexSl_at (enc := Pt.e) he17 (sz := 2) rfl
    cases h
    simp only [stepQ_normal, r15_Twice_L0R, ↓askB_true, ↓askB_false, beq_self_eq_true, wz, Nat.reduceAdd, Nat.reduceSub, Nat.reduceMul, Nat.reduceBEq, Nat.reduceEqDiff, Nat.reduceLeDiff, Nat.reduceLT, reduceCtorEq, Arc.e, Node.e, Pt.e, int1, f1, f2, f5, f6, f7, f8, bc14, i38, i39]
  · have bc14 : (decide (i34 < ((y6.length : Int)))) = false := decF c14
    rw [if_neg c14] at h
    cases h
    simp only [stepQ_exit, stepQ_ret, r15_Twice_L0E, ↓askB_true, ↓askB_false, beq_self_eq_true, wz, Nat.reduceAdd, Nat.reduceSub, Nat.reduceMul, Nat.reduceBEq, Nat.reduceEqDiff, Nat.reduceLeDiff, Nat.reduceLT, reduceCtorEq, Arc.e, Node.e, Pt.e, int1, f1, f2, f5, f6, f7, f8, bc14]

def r15_Twice_L1b (a0 : Plan) (a1 : List Int) : Int × Int → Option ((Int × Int) ⊕ ((Unit) ⊕ (Int))) := fun (i14, i15) => (if i15 < ((a1.length : Int)) then ((at_ a1 i15).bind fun e11 => ((r15_valid a0 e11).bind fun y5 => (if y5 = true then ((r15_Path a0 e11).bind fun y6 => ((r15_Twice_L0 a0 a1 i15 y6 (i14, 1)).bind (fun i40 => some (.inl (i40, w64 (i15 + 1)))))) else some (.inr (Sum.inl ()))))) else some (.inr (Sum.inr i14)))
def r15_Twice_L1R (a0 : Plan) (a1 : List Int) : Int × Int → Fr → TS → Prop := fun (i14, i15) f S => S = E0 [] ∧ f 1 = .r (.lst (List.map int1 a1) none) ∧ f 2 = .lv [.r (.lst (List.map Node.e a0.nodes) none), .r (.lst (List.map Arc.e a0.arcs) none), .r (.lst (List.map int1 a0.faces) none)] ∧ f 5 = I i14 ∧ f 6 = I i15
def r15_Twice_L1E (a0 : Plan) (a1 : List Int) : ((Unit) ⊕ (Int)) → TX → Fr → TS → Prop
  | (Sum.inl ()), tx, f, S => tx = TX.ret ∧ S = E0 [] ∧ f 4 = I 0
  | (Sum.inr i27), tx, f, S => tx = TX.exit 0 ∧ S = E0 [] ∧ f 5 = I i27
noncomputable def r15_Twice_L1 (a0 : Plan) (a1 : List Int) (s : Int × Int) : Option ((Unit) ⊕ (Int)) := loopO (r15_Twice_L1b a0 a1) s
theorem r15_Twice_L1_ok {a0 : Plan} {a1 : List Int} {s : Int × Int} {r : (Unit) ⊕ (Int)} {Q : TX → Fr → TS → Prop} (h : r15_Twice_L1 a0 a1 s = some r) {f : Fr} {S : TS} (hR : r15_Twice_L1R a0 a1 s f S) (hQ : ∀ tx f S, r15_Twice_L1E a0 a1 r tx f S → Q tx f S) : wp prog [2] (callX prog cfg (famT r15_Twice_fams)) (.loop x26L1) Q f S := by
  refine wp_loopO x26L1.eq_1 ?_ h hR hQ
  clear hQ hR h
  intro s x f S h hR
  obtain ⟨i14, i15⟩ := s
  obtain ⟨rfl, f1, f2, f5, f6⟩ := hR
  unfold r15_Twice_L1b at h
  try dsimp only at h
  by_cases c10 : i15 < ((a1.length : Int))
  · have bc10 : (decide (i15 < ((a1.length : Int)))) = true := decT c10
    rw [if_pos c10] at h
    obtain ⟨e11, he11, h⟩ := obind h
    have i28 := indexSl_at (enc := int1) he11 (sz := 1) rfl
    obtain ⟨y5, hy5, h⟩ := obind h
    have g5 : ∀ os, callX prog cfg (famT r15_Twice_fams) 40 [.agg [.r (.lst (List.map Node.e a0.nodes) none), .r (.lst (List.map Arc.e a0.arcs) none), .r (.lst (List.map int1 a0.faces) none)], I e11] (E0 os) = some (B y5, E0 os, none) := fun os => callX_fam rfl (famLook_hit rfl (r15_valid_val hy5))
    by_cases c11 : y5 = true
    · have bc11 : (y5) = true := id c11
      rw [if_pos c11] at h
      obtain ⟨y6, hy6, h⟩ := obind h
      have g6 : ∀ os, callX prog cfg (famT r15_Twice_fams) 49 [.agg [.r (.lst (List.map Node.e a0.nodes) none), .r (.lst (List.map Arc.e a0.arcs) none), .r (.lst (List.map int1 a0.faces) none)], I e11] (E0 os) = some (.r (.lst (List.map Pt.e y6) none), E0 os, none) := fun os => callX_fam rfl (famLook_skip rfl <| famLook_hit rfl (r15_Path_val hy6))
      obtain ⟨x3, hx3, h⟩ := obind h
      simp only [↓askB_true, ↓askB_false, beq_self_eq_true, wz, Nat.reduceAdd, Nat.reduceSub, Nat.reduceMul, Nat.reduceBEq, Nat.reduceEqDiff, Nat.reduceLeDiff, Nat.reduceLT, reduceCtorEq, Arc.e, Node.e, Pt.e, int1, f1, f2, f5, f6, bc10, i28, g5, bc11, g6]
      refine r15_Twice_L0_ok hx3 ?_ ?_
      · simp only [r15_Twice_L0R, ↓askB_true, ↓askB_false, beq_self_eq_true, wz, Nat.reduceAdd, Nat.reduceSub, Nat.reduceMul, Nat.reduceBEq, Nat.reduceEqDiff, Nat.reduceLeDiff, Nat.reduceLT, reduceCtorEq, Arc.e, Node.e, Pt.e, int1, f1, f2, f5, f6, bc10, i28, g5, bc11, g6]
      intro tx f S hE
      revert hx3 h hE; revert x3; intro i40 hx3 h hE
      try dsimp only [sumK] at h
      obtain ⟨rfl, rfl, f1, f2, f5, f6⟩ := hE
      cases h
      simp only [stepQ_normal, r15_Twice_L1R, ↓askB_true, ↓askB_false, beq_self_eq_true, wz, Nat.reduceAdd, Nat.reduceSub, Nat.reduceMul, Nat.reduceBEq, Nat.reduceEqDiff, Nat.reduceLeDiff, Nat.reduceLT, reduceCtorEq, Arc.e, Node.e, Pt.e, int1, bc10, i28, g5, bc11, g6, f1, f2, f5, f6]
    · have bc11 : (y5) = false := boolF c11
      rw [if_neg c11] at h
      cases h
      simp only [stepQ_exit, stepQ_ret, r15_Twice_L1E, ↓askB_true, ↓askB_false, beq_self_eq_true, wz, Nat.reduceAdd, Nat.reduceSub, Nat.reduceMul, Nat.reduceBEq, Nat.reduceEqDiff, Nat.reduceLeDiff, Nat.reduceLT, reduceCtorEq, Arc.e, Node.e, Pt.e, int1, f1, f2, f5, f6, bc10, i28, g5, bc11]
  · have bc10 : (decide (i15 < ((a1.length : Int)))) = false := decF c10
    rw [if_neg c10] at h
    cases h
    simp only [stepQ_exit, stepQ_ret, r15_Twice_L1E, ↓askB_true, ↓askB_false, beq_self_eq_true, wz, Nat.reduceAdd, Nat.reduceSub, Nat.reduceMul, Nat.reduceBEq, Nat.reduceEqDiff, Nat.reduceLeDiff, Nat.reduceLT, reduceCtorEq, Arc.e, Node.e, Pt.e, int1, f1, f2, f5, f6, bc10]

noncomputable def r15_Twice (a0 : Plan) (a1 : List Int) : Option (Int) := (if ((a1.length : Int)) > 512 then some 0 else ((r15_Twice_L1 a0 a1 (0, 0)).bind (fun x4 => sumK x4 (fun _ => some 0) (fun i41 => some i41))))
theorem r15_Twice_ok {a0 : Plan} {a1 : List Int} {r : Int} (h : r15_Twice a0 a1 = some r) : callL prog cfg (famT r15_Twice_fams) 26 [.agg [.r (.lst (List.map Node.e a0.nodes) none), .r (.lst (List.map Arc.e a0.arcs) none), .r (.lst (List.map int1 a0.faces) none)], .r (.lst (List.map int1 a1) none)] (E0 []) = some (I r, E0 [], none) := by
  refine callL_wpG cx26 (ax := [.agg [.r (.lst (List.map Node.e a0.nodes) none), .r (.lst (List.map Arc.e a0.arcs) none), .r (.lst (List.map int1 a0.faces) none)], .r (.lst (List.map int1 a1) none)]) rfl rfl ?_
  unfold r15_Twice at h
  try dsimp only at h
  by_cases c1 : ((a1.length : Int)) > 512
  · have bc1 : (decide (((a1.length : Int)) > 512)) = true := decT c1
    rw [if_pos c1] at h
    cases h
    simp only [retG, ↓askB_true, ↓askB_false, beq_self_eq_true, wz, Nat.reduceAdd, Nat.reduceSub, Nat.reduceMul, Nat.reduceBEq, Nat.reduceEqDiff, Nat.reduceLeDiff, Nat.reduceLT, reduceCtorEq, Arc.e, Node.e, Pt.e, int1, bc1, x26, x26B]
  · have bc1 : (decide (((a1.length : Int)) > 512)) = false := decF c1
    rw [if_neg c1] at h
    obtain ⟨x4, hx4, h⟩ := obind h
    simp only [↓askB_true, ↓askB_false, beq_self_eq_true, wz, Nat.reduceAdd, Nat.reduceSub, Nat.reduceMul, Nat.reduceBEq, Nat.reduceEqDiff, Nat.reduceLeDiff, Nat.reduceLT, reduceCtorEq, Arc.e, Node.e, Pt.e, int1, bc1, x26, x26B]
    refine r15_Twice_L1_ok hx4 ?_ ?_
    · simp only [r15_Twice_L1R, ↓askB_true, ↓askB_false, beq_self_eq_true, wz, Nat.reduceAdd, Nat.reduceSub, Nat.reduceMul, Nat.reduceBEq, Nat.reduceEqDiff, Nat.reduceLeDiff, Nat.reduceLT, reduceCtorEq, Arc.e, Node.e, Pt.e, int1, bc1, x26, x26B]
    intro tx f S hE
    rcases x4 with _u | i41
    · try dsimp only [sumK] at h
      obtain ⟨rfl, rfl, f4⟩ := hE
      cases h
      simp only [retG, ↓askB_true, ↓askB_false, beq_self_eq_true, wz, Nat.reduceAdd, Nat.reduceSub, Nat.reduceMul, Nat.reduceBEq, Nat.reduceEqDiff, Nat.reduceLeDiff, Nat.reduceLT, reduceCtorEq, Arc.e, Node.e, Pt.e, int1, bc1, f4]
    · try dsimp only [sumK] at h
      obtain ⟨rfl, rfl, f5⟩ := hE
      cases h
      simp only [retG, ↓askB_true, ↓askB_false, beq_self_eq_true, wz, Nat.reduceAdd, Nat.reduceSub, Nat.reduceMul, Nat.reduceBEq, Nat.reduceEqDiff, Nat.reduceLeDiff, Nat.reduceLT, reduceCtorEq, Arc.e, Node.e, Pt.e, int1, bc1, f5]

noncomputable def r15_Twice_fam : Fam := famC prog cfg (famT r15_Twice_fams) 26
theorem r15_Twice_val {a0 : Plan} {a1 : List Int} {r : Int} (h : r15_Twice a0 a1 = some r) : r15_Twice_fam.val [.agg [.r (.lst (List.map Node.e a0.nodes) none), .r (.lst (List.map Arc.e a0.arcs) none), .r (.lst (List.map int1 a0.faces) none)], .r (.lst (List.map int1 a1) none)] = some (.flat (I r)) := famC_flat (r15_Twice_ok h) rfl rfl
def r15_Twice_At (fams : List Fam) : Prop := ∀  {a0 : Plan} {a1 : List Int} {r : Int} {xs_ : List TV} {os os1 : List TO}, r15_Twice a0 a1 = some r → argsT false (E0 os) xs_ = some ([.agg [.r (.lst (List.map Node.e a0.nodes) none), .r (.lst (List.map Arc.e a0.arcs) none), .r (.lst (List.map int1 a0.faces) none)], .r (.lst (List.map int1 a1) none)], E0 os1) → callX prog cfg (famT fams) 26 xs_ (E0 os) = some (I r, E0 os1, none)
theorem r15_Twice_goods : ∀ x, x ∈ r15_Twice_fams → x.Good prog := (goodsC r15_valid_good (goodsC r15_Path_good goods0))
theorem r15_Twice_good : r15_Twice_fam.Good prog := famC_good sound r15_Twice_goods
/- 6: mapsheets/mapsheetslaw15.WalkTwice -/
noncomputable def law15_WalkTwice_fams : List Fam := [law15_good_fam, walk_Twice_fam, r15_Twice_fam, law15_awake_fam]
noncomputable def law15_WalkTwice (a0 : Plan) (a1 : List Int) : Option (Bool) := ((law15_good a0).bind fun y1 => (if y1 = true then ((walk_Twice a0 a1).bind fun y2 => ((r15_Twice a0 a1).bind fun y3 => (if y2 = y3 then ((law15_awake).bind fun y4 => some y4) else some false))) else ((law15_awake).bind fun y5 => some y5)))
theorem law15_WalkTwice_ok {a0 : Plan} {a1 : List Int} {r : Bool} (h : law15_WalkTwice a0 a1 = some r) : callL prog cfg (famT law15_WalkTwice_fams) 6 [.agg [.r (.lst (List.map Node.e a0.nodes) none), .r (.lst (List.map Arc.e a0.arcs) none), .r (.lst (List.map int1 a0.faces) none)], .r (.lst (List.map int1 a1) none)] (E0 []) = some (B r, E0 [], none) := by
  refine callL_wpG cx6 (ax := [.agg [.r (.lst (List.map Node.e a0.nodes) none), .r (.lst (List.map Arc.e a0.arcs) none), .r (.lst (List.map int1 a0.faces) none)], .r (.lst (List.map int1 a1) none)]) rfl rfl ?_
  unfold law15_WalkTwice at h
  try dsimp only at h
  obtain ⟨y1, hy1, h⟩ := obind h
  have g1 : ∀ os, callX prog cfg (famT law15_WalkTwice_fams) 15 [.agg [.r (.lst (List.map Node.e a0.nodes) none), .r (.lst (List.map Arc.e a0.arcs) none), .r (.lst (List.map int1 a0.faces) none)]] (E0 os) = some (B y1, E0 os, none) := fun os => callX_fam rfl (famLook_hit rfl (law15_good_val hy1))
  by_cases c1 : y1 = true
  · have bc1 : (y1) = true := id c1
    rw [if_pos c1] at h
    obtain ⟨y2, hy2, h⟩ := obind h
    have g2 : ∀ os, callX prog cfg (famT law15_WalkTwice_fams) 25 [.agg [.r (.lst (List.map Node.e a0.nodes) none), .r (.lst (List.map Arc.e a0.arcs) none), .r (.lst (List.map int1 a0.faces) none)], .r (.lst (List.map int1 a1) none)] (E0 os) = some (I y2, E0 os, none) := fun os => callX_fam rfl (famLook_skip rfl <| famLook_hit rfl (walk_Twice_val hy2))
    obtain ⟨y3, hy3, h⟩ := obind h
    have g3 : ∀ os, callX prog cfg (famT law15_WalkTwice_fams) 26 [.agg [.r (.lst (List.map Node.e a0.nodes) none), .r (.lst (List.map Arc.e a0.arcs) none), .r (.lst (List.map int1 a0.faces) none)], .r (.lst (List.map int1 a1) none)] (E0 os) = some (I y3, E0 os, none) := fun os => callX_fam rfl (famLook_skip rfl <| famLook_skip rfl <| famLook_hit rfl (r15_Twice_val hy3))
    by_cases c2 : y2 = y3
    · have bc2 : (y2 == y3) = true := beqT c2
      rw [if_pos c2] at h
      obtain ⟨y4, hy4, h⟩ := obind h
      have g4 : ∀ os, callX prog cfg (famT law15_WalkTwice_fams) 14 [] (E0 os) = some (B y4, E0 os, none) := fun os => callX_fam rfl (famLook_skip rfl <| famLook_skip rfl <| famLook_skip rfl <| famLook_hit rfl (law15_awake_val hy4))
      cases h
      simp only [retG, ↓askB_true, ↓askB_false, beq_self_eq_true, wz, Nat.reduceAdd, Nat.reduceSub, Nat.reduceMul, Nat.reduceBEq, Nat.reduceEqDiff, Nat.reduceLeDiff, Nat.reduceLT, reduceCtorEq, Arc.e, Node.e, Pt.e, int1, g1, bc1, g2, g3, bc2, g4, x6, x6B]
    · have bc2 : (y2 == y3) = false := beqF c2
      rw [if_neg c2] at h
      cases h
      simp only [retG, ↓askB_true, ↓askB_false, beq_self_eq_true, wz, Nat.reduceAdd, Nat.reduceSub, Nat.reduceMul, Nat.reduceBEq, Nat.reduceEqDiff, Nat.reduceLeDiff, Nat.reduceLT, reduceCtorEq, Arc.e, Node.e, Pt.e, int1, g1, bc1, g2, g3, bc2, x6, x6B]
  · have bc1 : (y1) = false := boolF c1
    rw [if_neg c1] at h
    obtain ⟨y5, hy5, h⟩ := obind h
    have g5 : ∀ os, callX prog cfg (famT law15_WalkTwice_fams) 14 [] (E0 os) = some (B y5, E0 os, none) := fun os => callX_fam rfl (famLook_skip rfl <| famLook_skip rfl <| famLook_skip rfl <| famLook_hit rfl (law15_awake_val hy5))
    cases h
    simp only [retG, ↓askB_true, ↓askB_false, beq_self_eq_true, wz, Nat.reduceAdd, Nat.reduceSub, Nat.reduceMul, Nat.reduceBEq, Nat.reduceEqDiff, Nat.reduceLeDiff, Nat.reduceLT, reduceCtorEq, Arc.e, Node.e, Pt.e, int1, g1, bc1, g5, x6, x6B]

noncomputable def law15_WalkTwice_fam : Fam := famC prog cfg (famT law15_WalkTwice_fams) 6
theorem law15_WalkTwice_val {a0 : Plan} {a1 : List Int} {r : Bool} (h : law15_WalkTwice a0 a1 = some r) : law15_WalkTwice_fam.val [.agg [.r (.lst (List.map Node.e a0.nodes) none), .r (.lst (List.map Arc.e a0.arcs) none), .r (.lst (List.map int1 a0.faces) none)], .r (.lst (List.map int1 a1) none)] = some (.flat (B r)) := famC_flat (law15_WalkTwice_ok h) rfl rfl
def law15_WalkTwice_At (fams : List Fam) : Prop := ∀  {a0 : Plan} {a1 : List Int} {r : Bool} {xs_ : List TV} {os os1 : List TO}, law15_WalkTwice a0 a1 = some r → argsT false (E0 os) xs_ = some ([.agg [.r (.lst (List.map Node.e a0.nodes) none), .r (.lst (List.map Arc.e a0.arcs) none), .r (.lst (List.map int1 a0.faces) none)], .r (.lst (List.map int1 a1) none)], E0 os1) → callX prog cfg (famT fams) 6 xs_ (E0 os) = some (B r, E0 os1, none)
theorem law15_WalkTwice_goods : ∀ x, x ∈ law15_WalkTwice_fams → x.Good prog := (goodsC law15_good_good (goodsC walk_Twice_good (goodsC r15_Twice_good (goodsC law15_awake_good goods0))))
theorem law15_WalkTwice_good : law15_WalkTwice_fam.Good prog := famC_good sound law15_WalkTwice_goods
end
end Go.TL.Pr
