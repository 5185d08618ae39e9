/- Printed walks. -/
import Derived.Test.YtbobgmjenekahaaGreatAw
set_option linter.unusedVariables false
set_option linter.unusedSimpArgs false
namespace Go.TL.Pr
open Go.TL
open Go.Proofs.Tryz
set_option maxRecDepth 100000
set_option maxHeartbeats 2000000
set_option linter.unusedSimpArgs false
set_option linter.unusedVariables false
noncomputable section
/- 14: awake, carried out by the kernel -/
def law15_awake : Option Bool := some true
def law15_awake_fam : Fam := ⟨14, fun xs_ => match xs_ with | [] => some (.flat (B true)) | _ => none⟩
theorem law15_awake_val {r : Bool} (h : law15_awake = some r) : law15_awake_fam.val [] = some (.flat (B r)) := by cases h; rfl
def law15_awake_At (fams : List Fam) : Prop := ∀ {r : Bool} {xs_ : List TV} {os os1 : List TO}, law15_awake = some r → argsT false (E0 os) xs_ = some ([], E0 os1) → callX prog cfg (famT fams) 14 xs_ (E0 os) = some (B r, E0 os1, none)
theorem law15_awake_good : law15_awake_fam.Good prog := by
  intro xs_ v h
  simp only [law15_awake_fam] at h
  split at h
  · cases h; exact g_awake
  · cases h
structure r14_Segment where
  Arc : Arc
  I : Int
  N : Int
  A : Pt
  B : Pt
  deriving DecidableEq
def r14_Segment.e (a : r14_Segment) : List RV := [cI a.Arc.id, cI a.Arc.frm, cI a.Arc.to, .lst (List.map Pt.e a.Arc.via) none, cI a.Arc.left, cI a.Arc.right, cI a.I, cI a.N, cI a.A.x, cI a.A.y, cI a.B.x, cI a.B.y]
def r14_Segment.v (a : r14_Segment) : TV := .agg ((r14_Segment.e a).map .r)
theorem r14_Segment.ext_ {a b : r14_Segment} (h0 : a.Arc = b.Arc) (h1 : a.I = b.I) (h2 : a.N = b.N) (h3 : a.A = b.A) (h4 : a.B = b.B) : a = b := by cases a; cases b; simp only [r14_Segment.mk.injEq]; exact ⟨h0, h1, h2, h3, h4⟩
theorem r14_Segment.e_inj (a b : r14_Segment) (h : a.e = b.e) : a = b := by
  simp only [r14_Segment.e, List.cons.injEq, RV.sc.injEq, Value.int.injEq, Value.bool.injEq, RV.lst.injEq, true_and, and_true] at h
  obtain ⟨h0, h1, h2, h3, h4, h5, h6, h7, h8, h9, h10, h11⟩ := h
  replace h3 := map_inj Pt.e_inj h3
  exact (r14_Segment.ext_ (Arc.ext_ h0 h1 h2 h3 h4 h5) h6 h7 (Pt.ext_ h8 h9) (Pt.ext_ h10 h11))
theorem r14_Segment.v_inj (a b : r14_Segment) (h : a.v = b.v) : a = b := vA_inj r14_Segment.e_inj a b h
theorem r14_Segment.eok : EncOk r14_Segment.e 12 := ⟨fun _ => rfl, fun _ => rfl, fun a => by simp only [r14_Segment.e, eqRow, eqRV_int, eqRV_bool, eqRV_lst Pt.eok, Bool.and_self]⟩
def Pt.eqb (p q : Pt) : Bool := p.x == q.x && p.y == q.y
theorem Pt.eqbT {p q : Pt} (h : p = q) : Pt.eqb p q = true := by subst h; simp [Pt.eqb]
theorem Pt.eqb_eq {p q : Pt} (h : Pt.eqb p q = true) : p = q := by
  simp only [Pt.eqb, Bool.and_eq_true, beq_iff_eq] at h
  obtain ⟨h0, h1⟩ := h
  exact (Pt.ext_ h0 h1)
theorem Pt.eqbF {p q : Pt} (h : ¬ p = q) : Pt.eqb p q = false := by
  cases hb : Pt.eqb p q
  · rfl
  · exact (h (Pt.eqb_eq hb)).elim
theorem Pt.clV_ (a0 : Int) (a1 : Int) (b0 : Int) (b1 : Int) (x y : Operand) : clV prog .eql 44 x y (.agg [I a0, I a1]) (.agg [I b0, I b1]) = oval (B (a0 == b0 && a1 == b1)) ∧ clV prog .neq 44 x y (.agg [I a0, I a1]) (.agg [I b0, I b1]) = oval (B !(a0 == b0 && a1 == b1)) := by
  refine clV_struct (cs := #[(.int .i64 a0), (.int .i64 a1)]) (ds := #[(.int .i64 b0), (.int .i64 b1)]) rfl rfl underlying44 (by kernel_rfl) (by kernel_rfl) ?_
  have p1 : ∀ (u0 : Int) (u1 : Int), pureRun prog (part 3 #[(.int .i64 u0), (.int .i64 u1)] 0) = some (.int .i64 u0) := fun u0 u1 => by kernel_rfl
  have e1 : ∀ u v : Int, pureRun prog (Op.equalIn 9999 3 (.int .i64 u) (.int .i64 v)) = some (u == v) := fun u v => pure_equalIn_int 9998 3 u v underlying3
  have p2 : ∀ (u0 : Int) (u1 : Int), pureRun prog (part 3 #[(.int .i64 u0), (.int .i64 u1)] 1) = some (.int .i64 u1) := fun u0 u1 => by kernel_rfl
  have e2 : ∀ u v : Int, pureRun prog (Op.equalIn 9999 3 (.int .i64 u) (.int .i64 v)) = some (u == v) := fun u v => pure_equalIn_int 9998 3 u v underlying3
  simp only [eqFP, p1, e1, p2, e2, Option.bind_some, ne_eq, String.reduceEq, not_false_eq_true, if_true]
  cases a0 == b0 <;> cases a1 == b1 <;> rfl
theorem Pt.clV (p q : Pt) (x y : Operand) : clV prog .eql 44 x y p.v q.v = oval (B (Pt.eqb p q)) ∧ clV prog .neq 44 x y p.v q.v = oval (B !(Pt.eqb p q)) := Pt.clV_ p.x p.y q.x q.y x y
/- 21: mapsheets/mapsheetsref15.Small -/
noncomputable def r15_Small_fams : List Fam := []
def r15_Small_L0b (a0 : Plan) : Int × Int → Option ((Int × Int) ⊕ ((Unit) ⊕ (Int))) := fun (i4, i5) => (if i5 < ((a0.arcs.length : Int)) then ((at_ a0.arcs i5).bind fun e3 => (if ((e3.via.length : Int)) > 300 then some (.inr (Sum.inl ())) else some (.inl (w64 (i4 + ((e3.via.length : Int))), w64 (i5 + 1))))) else some (.inr (Sum.inr i4)))
def r15_Small_L0R (a0 : Plan) : Int × Int → Fr → TS → Prop := fun (i4, i5) f S => S = E0 [] ∧ f 1 = .lv [.r (.lst (List.map Node.e a0.nodes) none), .r (.lst (List.map Arc.e a0.arcs) none), .r (.lst (List.map int1 a0.faces) none)] ∧ f 3 = I i4 ∧ f 4 = I i5
def r15_Small_L0E (a0 : Plan) : ((Unit) ⊕ (Int)) → TX → Fr → TS → Prop
  | (Sum.inl ()), tx, f, S => tx = TX.ret ∧ S = E0 [] ∧ f 2 = B false
  | (Sum.inr i7), tx, f, S => tx = TX.exit 0 ∧ S = E0 [] ∧ f 3 = I i7
noncomputable def r15_Small_L0 (a0 : Plan) (s : Int × Int) : Option ((Unit) ⊕ (Int)) := loopO (r15_Small_L0b a0) s
theorem r15_Small_L0_ok {a0 : Plan} {s : Int × Int} {r : (Unit) ⊕ (Int)} {Q : TX → Fr → TS → Prop} (h : r15_Small_L0 a0 s = some r) {f : Fr} {S : TS} (hR : r15_Small_L0R a0 s f S) (hQ : ∀ tx f S, r15_Small_L0E a0 r tx f S → Q tx f S) : wp prog [1] (callX prog cfg (famT r15_Small_fams)) (.loop x21L0) Q f S := by
  refine wp_loopO x21L0.eq_1 ?_ h hR hQ
  clear hQ hR h
  intro s x f S h hR
  obtain ⟨i4, i5⟩ := s
  obtain ⟨rfl, f1, f3, f4⟩ := hR
  unfold r15_Small_L0b at h
  try dsimp only at h
  by_cases c8 : i5 < ((a0.arcs.length : Int))
  · have bc8 : (decide (i5 < ((a0.arcs.length : Int)))) = true := decT c8
    rw [if_pos c8] at h
    obtain ⟨e3, he3, h⟩ := obind h
    have i8 := indexSl_at (enc := Arc.e) he3 (sz := 6) rfl
    by_cases c9 : ((e3.via.length : Int)) > 300
    · have bc9 : (decide (((e3.via.length : Int)) > 300)) = true := decT c9
      rw [if_pos c9] at h
      cases h
      simp only [stepQ_exit, stepQ_ret, r15_Small_L0E, ↓askB_true, ↓askB_false, beq_self_eq_true, wz, Nat.reduceAdd, Nat.reduceSub, Nat.reduceMul, Nat.reduceBEq, Nat.reduceEqDiff, Nat.reduceLeDiff, Nat.reduceLT, reduceCtorEq, Arc.e, Node.e, Pt.e, int1, f1, f3, f4, bc8, i8, bc9]
    · have bc9 : (decide (((e3.via.length : Int)) > 300)) = false := decF c9
      rw [if_neg c9] at h
      cases h
      simp only [stepQ_normal, r15_Small_L0R, ↓askB_true, ↓askB_false, beq_self_eq_true, wz, Nat.reduceAdd, Nat.reduceSub, Nat.reduceMul, Nat.reduceBEq, Nat.reduceEqDiff, Nat.reduceLeDiff, Nat.reduceLT, reduceCtorEq, Arc.e, Node.e, Pt.e, int1, f1, f3, f4, bc8, i8, bc9]
  · have bc8 : (decide (i5 < ((a0.arcs.length : Int)))) = false := decF c8
    rw [if_neg c8] at h
    cases h
    simp only [stepQ_exit, stepQ_ret, r15_Small_L0E, ↓askB_true, ↓askB_false, beq_self_eq_true, wz, Nat.reduceAdd, Nat.reduceSub, Nat.reduceMul, Nat.reduceBEq, Nat.reduceEqDiff, Nat.reduceLeDiff, Nat.reduceLT, reduceCtorEq, Arc.e, Node.e, Pt.e, int1, f1, f3, f4, bc8]

noncomputable def r15_Small (a0 : Plan) : Option (Bool) := (if ((a0.nodes.length : Int)) > 40 then some false else (if ((a0.arcs.length : Int)) > 40 then some false else (if ((a0.faces.length : Int)) > 80 then some false else ((r15_Small_L0 a0 (0, 0)).bind (fun x1 => sumK x1 (fun _ => some false) (fun i9 => some (decide (i9 ≤ 300))))))))
theorem r15_Small_ok {a0 : Plan} {r : Bool} (h : r15_Small a0 = some r) : callL prog cfg (famT r15_Small_fams) 21 [.agg [.r (.lst (List.map Node.e a0.nodes) none), .r (.lst (List.map Arc.e a0.arcs) none), .r (.lst (List.map int1 a0.faces) none)]] (E0 []) = some (B r, E0 [], none) := by
  refine callL_wpG cx21 (ax := [.agg [.r (.lst (List.map Node.e a0.nodes) none), .r (.lst (List.map Arc.e a0.arcs) none), .r (.lst (List.map int1 a0.faces) none)]]) rfl rfl ?_
  unfold r15_Small at h
  try dsimp only at h
  by_cases c1 : ((a0.nodes.length : Int)) > 40
  · have bc1 : (decide (((a0.nodes.length : Int)) > 40)) = true := decT c1
    rw [if_pos c1] at h
    cases h
    simp only [retG, ↓askB_true, ↓askB_false, beq_self_eq_true, wz, Nat.reduceAdd, Nat.reduceSub, Nat.reduceMul, Nat.reduceBEq, Nat.reduceEqDiff, Nat.reduceLeDiff, Nat.reduceLT, reduceCtorEq, Arc.e, Node.e, Pt.e, int1, bc1, x21, x21B]
  · have bc1 : (decide (((a0.nodes.length : Int)) > 40)) = false := decF c1
    rw [if_neg c1] at h
    by_cases c2 : ((a0.arcs.length : Int)) > 40
    · have bc2 : (decide (((a0.arcs.length : Int)) > 40)) = true := decT c2
      rw [if_pos c2] at h
      cases h
      simp only [retG, ↓askB_true, ↓askB_false, beq_self_eq_true, wz, Nat.reduceAdd, Nat.reduceSub, Nat.reduceMul, Nat.reduceBEq, Nat.reduceEqDiff, Nat.reduceLeDiff, Nat.reduceLT, reduceCtorEq, Arc.e, Node.e, Pt.e, int1, bc1, bc2, x21, x21B]
    · have bc2 : (decide (((a0.arcs.length : Int)) > 40)) = false := decF c2
      rw [if_neg c2] at h
      by_cases c3 : ((a0.faces.length : Int)) > 80
      · have bc3 : (decide (((a0.faces.length : Int)) > 80)) = true := decT c3
        rw [if_pos c3] at h
        cases h
        simp only [retG, ↓askB_true, ↓askB_false, beq_self_eq_true, wz, Nat.reduceAdd, Nat.reduceSub, Nat.reduceMul, Nat.reduceBEq, Nat.reduceEqDiff, Nat.reduceLeDiff, Nat.reduceLT, reduceCtorEq, Arc.e, Node.e, Pt.e, int1, bc1, bc2, bc3, x21, x21B]
      · have bc3 : (decide (((a0.faces.length : Int)) > 80)) = false := decF c3
        rw [if_neg c3] at h
        obtain ⟨x1, hx1, h⟩ := obind h
        simp only [↓askB_true, ↓askB_false, beq_self_eq_true, wz, Nat.reduceAdd, Nat.reduceSub, Nat.reduceMul, Nat.reduceBEq, Nat.reduceEqDiff, Nat.reduceLeDiff, Nat.reduceLT, reduceCtorEq, Arc.e, Node.e, Pt.e, int1, bc1, bc2, bc3, x21, x21B]
        refine r15_Small_L0_ok hx1 ?_ ?_
        · simp only [r15_Small_L0R, ↓askB_true, ↓askB_false, beq_self_eq_true, wz, Nat.reduceAdd, Nat.reduceSub, Nat.reduceMul, Nat.reduceBEq, Nat.reduceEqDiff, Nat.reduceLeDiff, Nat.reduceLT, reduceCtorEq, Arc.e, Node.e, Pt.e, int1, bc1, bc2, bc3, x21, x21B]
        intro tx f S hE
        rcases x1 with _u | i9
        · try dsimp only [sumK] at h
          obtain ⟨rfl, rfl, f2⟩ := hE
          cases h
          simp only [retG, ↓askB_true, ↓askB_false, beq_self_eq_true, wz, Nat.reduceAdd, Nat.reduceSub, Nat.reduceMul, Nat.reduceBEq, Nat.reduceEqDiff, Nat.reduceLeDiff, Nat.reduceLT, reduceCtorEq, Arc.e, Node.e, Pt.e, int1, bc1, bc2, bc3, f2]
        · try dsimp only [sumK] at h
          obtain ⟨rfl, rfl, f3⟩ := hE
          cases h
          simp only [retG, ↓askB_true, ↓askB_false, beq_self_eq_true, wz, Nat.reduceAdd, Nat.reduceSub, Nat.reduceMul, Nat.reduceBEq, Nat.reduceEqDiff, Nat.reduceLeDiff, Nat.reduceLT, reduceCtorEq, Arc.e, Node.e, Pt.e, int1, bc1, bc2, bc3, f3]

noncomputable def r15_Small_fam : Fam := famC prog cfg (famT r15_Small_fams) 21
theorem r15_Small_val {a0 : Plan} {r : Bool} (h : r15_Small a0 = some r) : r15_Small_fam.val [.agg [.r (.lst (List.map Node.e a0.nodes) none), .r (.lst (List.map Arc.e a0.arcs) none), .r (.lst (List.map int1 a0.faces) none)]] = some (.flat (B r)) := famC_flat (r15_Small_ok h) rfl rfl
def r15_Small_At (fams : List Fam) : Prop := ∀  {a0 : Plan} {r : Bool} {xs_ : List TV} {os os1 : List TO}, r15_Small a0 = some r → argsT false (E0 os) xs_ = some ([.agg [.r (.lst (List.map Node.e a0.nodes) none), .r (.lst (List.map Arc.e a0.arcs) none), .r (.lst (List.map int1 a0.faces) none)]], E0 os1) → callX prog cfg (famT fams) 21 xs_ (E0 os) = some (B r, E0 os1, none)
theorem r15_Small_goods : ∀ x, x ∈ r15_Small_fams → x.Good prog := goods0
theorem r15_Small_good : r15_Small_fam.Good prog := famC_good sound r15_Small_goods
/- 54: mapsheets/mapsheetsref14.limits -/
noncomputable def r14_limits_fams : List Fam := []
def r14_limits_L0b (a0 : Plan) : Int → Option ((Int) ⊕ ((Unit) ⊕ (Unit))) := fun i3 => (if i3 < ((a0.arcs.length : Int)) then ((at_ a0.arcs i3).bind fun e3 => (if ((e3.via.length : Int)) > 64 then some (.inr (Sum.inl ())) else some (.inl (w64 (i3 + 1))))) else some (.inr (Sum.inr ())))
def r14_limits_L0R (a0 : Plan) : Int → Fr → TS → Prop := fun i3 f S => S = E0 [] ∧ f 1 = .lv [.r (.lst (List.map Node.e a0.nodes) none), .r (.lst (List.map Arc.e a0.arcs) none), .r (.lst (List.map int1 a0.faces) none)] ∧ f 3 = I i3
def r14_limits_L0E (a0 : Plan) : ((Unit) ⊕ (Unit)) → TX → Fr → TS → Prop
  | (Sum.inl ()), tx, f, S => tx = TX.ret ∧ S = E0 [] ∧ f 2 = B true
  | (Sum.inr ()), tx, f, S => tx = TX.exit 0 ∧ S = E0 [] ∧ f 1 = .lv [.r (.lst (List.map Node.e a0.nodes) none), .r (.lst (List.map Arc.e a0.arcs) none), .r (.lst (List.map int1 a0.faces) none)]
noncomputable def r14_limits_L0 (a0 : Plan) (s : Int) : Option ((Unit) ⊕ (Unit)) := loopO (r14_limits_L0b a0) s
theorem r14_limits_L0_ok {a0 : Plan} {s : Int} {r : (Unit) ⊕ (Unit)} {Q : TX → Fr → TS → Prop} (h : r14_limits_L0 a0 s = some r) {f : Fr} {S : TS} (hR : r14_limits_L0R a0 s f S) (hQ : ∀ tx f S, r14_limits_L0E a0 r tx f S → Q tx f S) : wp prog [1] (callX prog cfg (famT r14_limits_fams)) (.loop x54L0) Q f S := by
  refine wp_loopO x54L0.eq_1 ?_ h hR hQ
  clear hQ hR h
  intro s x f S h hR
  revert h hR; revert s; intro i3 h hR
  obtain ⟨rfl, f1, f3⟩ := hR
  unfold r14_limits_L0b at h
  try dsimp only at h
  by_cases c5 : i3 < ((a0.arcs.length : Int))
  · have bc5 : (decide (i3 < ((a0.arcs.length : Int)))) = true := decT c5
    rw [if_pos c5] at h
    obtain ⟨e3, he3, h⟩ := obind h
    have i5 := indexSl_at (enc := Arc.e) he3 (sz := 6) rfl
    by_cases c6 : ((e3.via.length : Int)) > 64
    · have bc6 : (decide (((e3.via.length : Int)) > 64)) = true := decT c6
      rw [if_pos c6] at h
      cases h
      simp only [stepQ_exit, stepQ_ret, r14_limits_L0E, ↓askB_true, ↓askB_false, beq_self_eq_true, wz, Nat.reduceAdd, Nat.reduceSub, Nat.reduceMul, Nat.reduceBEq, Nat.reduceEqDiff, Nat.reduceLeDiff, Nat.reduceLT, reduceCtorEq, Arc.e, Node.e, Pt.e, int1, f1, f3, bc5, i5, bc6]
    · have bc6 : (decide (((e3.via.length : Int)) > 64)) = false := decF c6
      rw [if_neg c6] at h
      cases h
      simp only [stepQ_normal, r14_limits_L0R, ↓askB_true, ↓askB_false, beq_self_eq_true, wz, Nat.reduceAdd, Nat.reduceSub, Nat.reduceMul, Nat.reduceBEq, Nat.reduceEqDiff, Nat.reduceLeDiff, Nat.reduceLT, reduceCtorEq, Arc.e, Node.e, Pt.e, int1, f1, f3, bc5, i5, bc6]
  · have bc5 : (decide (i3 < ((a0.arcs.length : Int)))) = false := decF c5
    rw [if_neg c5] at h
    cases h
    simp only [stepQ_exit, stepQ_ret, r14_limits_L0E, ↓askB_true, ↓askB_false, beq_self_eq_true, wz, Nat.reduceAdd, Nat.reduceSub, Nat.reduceMul, Nat.reduceBEq, Nat.reduceEqDiff, Nat.reduceLeDiff, Nat.reduceLT, reduceCtorEq, Arc.e, Node.e, Pt.e, int1, f1, f3, bc5]

noncomputable def r14_limits (a0 : Plan) : Option (Bool) := ((r14_limits_L0 a0 0).bind (fun x1 => sumK x1 (fun _ => some true) (fun _ => (if ((a0.nodes.length : Int)) > 256 then some true else (if ((a0.arcs.length : Int)) > 256 then some true else some (decide (((a0.faces.length : Int)) > 64)))))))
theorem r14_limits_ok {a0 : Plan} {r : Bool} (h : r14_limits a0 = some r) : callL prog cfg (famT r14_limits_fams) 54 [.agg [.r (.lst (List.map Node.e a0.nodes) none), .r (.lst (List.map Arc.e a0.arcs) none), .r (.lst (List.map int1 a0.faces) none)]] (E0 []) = some (B r, E0 [], none) := by
  refine callL_wpG cx54 (ax := [.agg [.r (.lst (List.map Node.e a0.nodes) none), .r (.lst (List.map Arc.e a0.arcs) none), .r (.lst (List.map int1 a0.faces) none)]]) rfl rfl ?_
  unfold r14_limits at h
  try dsimp only at h
  obtain ⟨x1, hx1, h⟩ := obind h
  simp only [↓askB_true, ↓askB_false, beq_self_eq_true, wz, Nat.reduceAdd, Nat.reduceSub, Nat.reduceMul, Nat.reduceBEq, Nat.reduceEqDiff, Nat.reduceLeDiff, Nat.reduceLT, reduceCtorEq, Arc.e, Node.e, Pt.e, int1, x54, x54B]
  refine r14_limits_L0_ok hx1 ?_ ?_
  · simp only [r14_limits_L0R, ↓askB_true, ↓askB_false, beq_self_eq_true, wz, Nat.reduceAdd, Nat.reduceSub, Nat.reduceMul, Nat.reduceBEq, Nat.reduceEqDiff, Nat.reduceLeDiff, Nat.reduceLT, reduceCtorEq, Arc.e, Node.e, Pt.e, int1, x54, x54B]
  intro tx f S hE
  rcases x1 with _u | _u
  · try dsimp only [sumK] at h
    obtain ⟨rfl, rfl, f2⟩ := hE
    cases h
    simp only [retG, ↓askB_true, ↓askB_false, beq_self_eq_true, wz, Nat.reduceAdd, Nat.reduceSub, Nat.reduceMul, Nat.reduceBEq, Nat.reduceEqDiff, Nat.reduceLeDiff, Nat.reduceLT, reduceCtorEq, Arc.e, Node.e, Pt.e, int1, f2]
  · try dsimp only [sumK] at h
    obtain ⟨rfl, rfl, f1⟩ := hE
    by_cases c7 : ((a0.nodes.length : Int)) > 256
    · have bc7 : (decide (((a0.nodes.length : Int)) > 256)) = true := decT c7
      rw [if_pos c7] at h
      cases h
      simp only [retG, ↓askB_true, ↓askB_false, beq_self_eq_true, wz, Nat.reduceAdd, Nat.reduceSub, Nat.reduceMul, Nat.reduceBEq, Nat.reduceEqDiff, Nat.reduceLeDiff, Nat.reduceLT, reduceCtorEq, Arc.e, Node.e, Pt.e, int1, f1, bc7]
    · have bc7 : (decide (((a0.nodes.length : Int)) > 256)) = false := decF c7
      rw [if_neg c7] at h
      by_cases c8 : ((a0.arcs.length : Int)) > 256
      · have bc8 : (decide (((a0.arcs.length : Int)) > 256)) = true := decT c8
        rw [if_pos c8] at h
        cases h
        simp only [retG, ↓askB_true, ↓askB_false, beq_self_eq_true, wz, Nat.reduceAdd, Nat.reduceSub, Nat.reduceMul, Nat.reduceBEq, Nat.reduceEqDiff, Nat.reduceLeDiff, Nat.reduceLT, reduceCtorEq, Arc.e, Node.e, Pt.e, int1, f1, bc7, bc8]
      · have bc8 : (decide (((a0.arcs.length : Int)) > 256)) = false := decF c8
        rw [if_neg c8] at h
        cases h
        simp only [retG, ↓askB_true, ↓askB_false, beq_self_eq_true, wz, Nat.reduceAdd, Nat.reduceSub, Nat.reduceMul, Nat.reduceBEq, Nat.reduceEqDiff, Nat.reduceLeDiff, Nat.reduceLT, reduceCtorEq, Arc.e, Node.e, Pt.e, int1, f1, bc7, bc8]

noncomputable def r14_limits_fam : Fam := famC prog cfg (famT r14_limits_fams) 54
theorem r14_limits_val {a0 : Plan} {r : Bool} (h : r14_limits a0 = some r) : r14_limits_fam.val [.agg [.r (.lst (List.map Node.e a0.nodes) none), .r (.lst (List.map Arc.e a0.arcs) none), .r (.lst (List.map int1 a0.faces) none)]] = some (.flat (B r)) := famC_flat (r14_limits_ok h) rfl rfl
def r14_limits_At (fams : List Fam) : Prop := ∀  {a0 : Plan} {r : Bool} {xs_ : List TV} {os os1 : List TO}, r14_limits a0 = some r → argsT false (E0 os) xs_ = some ([.agg [.r (.lst (List.map Node.e a0.nodes) none), .r (.lst (List.map Arc.e a0.arcs) none), .r (.lst (List.map int1 a0.faces) none)]], E0 os1) → callX prog cfg (famT fams) 54 xs_ (E0 os) = some (B r, E0 os1, none)
theorem r14_limits_goods : ∀ x, x ∈ r14_limits_fams → x.Good prog := goods0
theorem r14_limits_good : r14_limits_fam.Good prog := famC_good sound r14_limits_goods
/- 56: mapsheets/mapsheetsref14.ids -/
noncomputable def r14_ids_fams : List Fam := []
def r14_ids_L0b (a0 : Plan) : Bool × (List Int) × Int → Option ((Bool × (List Int) × Int) ⊕ ((Bool × (List Int)))) := fun (b_2, l5, i5) => (if i5 < ((a0.nodes.length : Int)) then (if b_2 = true then some (.inr (true, l5)) else ((at_ a0.nodes i5).bind fun e4 => ((appO 8 l5 (([e4.id] : List Int))).bind fun l8 => some (.inl (false, l8, w64 (i5 + 1)))))) else some (.inr (b_2, l5)))
def r14_ids_L0R (a0 : Plan) : Bool × (List Int) × Int → Fr → TS → Prop := fun (b_2, l5, i5) f S => ∃ os v5, S = E0 os ∧ OsOk os ∧ Acc os 1 v5 (List.map int1 l5) ∧ f 1 = B b_2 ∧ f 2 = .lv [.r (.lst (List.map Node.e a0.nodes) none), .r (.lst (List.map Arc.e a0.arcs) none), .r (.lst (List.map int1 a0.faces) none)] ∧ f 5 = v5 ∧ f 6 = I i5
def r14_ids_L0E (a0 : Plan) : ((Bool × (List Int))) → TX → Fr → TS → Prop
  | (b_3, l7), tx, f, S => tx = TX.exit 0 ∧ ∃ os v7, S = E0 os ∧ OsOk os ∧ Acc os 1 v7 (List.map int1 l7) ∧ f 1 = B b_3 ∧ f 2 = .lv [.r (.lst (List.map Node.e a0.nodes) none), .r (.lst (List.map Arc.e a0.arcs) none), .r (.lst (List.map int1 a0.faces) none)] ∧ f 5 = v7
noncomputable def r14_ids_L0 (a0 : Plan) (s : Bool × (List Int) × Int) : Option ((Bool × (List Int))) := loopO (r14_ids_L0b a0) s
theorem r14_ids_L0_ok {a0 : Plan} {s : Bool × (List Int) × Int} {r : (Bool × (List Int))} {Q : TX → Fr → TS → Prop} (h : r14_ids_L0 a0 s = some r) {f : Fr} {S : TS} (hR : r14_ids_L0R a0 s f S) (hQ : ∀ tx f S, r14_ids_L0E a0 r tx f S → Q tx f S) : wp prog [2] (callX prog cfg (famT r14_ids_fams)) (.loop x56L0) Q f S := by
  refine wp_loopO x56L0.eq_1 ?_ h hR hQ
  clear hQ hR h
  intro s x f S h hR
  obtain ⟨b_2, l5, i5⟩ := s
  obtain ⟨os7, v5, rfl, qos7, Av5, f1, f2, f5, f6⟩ := hR
  have bv5 := Av5.rd.b
  unfold r14_ids_L0b at h
  try dsimp only at h
  by_cases c7 : i5 < ((a0.nodes.length : Int))
  · have bc7 : (decide (i5 < ((a0.nodes.length : Int)))) = true := decT c7
    rw [if_pos c7] at h
    by_cases c8 : b_2 = true
    · have bc8 : (b_2) = true := id c8
      rw [if_pos c8] at h
      cases h
      simp only [stepQ_exit, stepQ_ret, ↓askB_true, ↓askB_false, beq_self_eq_true, wz, Nat.reduceAdd, Nat.reduceSub, Nat.reduceMul, Nat.reduceBEq, Nat.reduceEqDiff, Nat.reduceLeDiff, Nat.reduceLT, reduceCtorEq, Arc.e, Node.e, Pt.e, int1, bv5, f1, f2, f5, f6, bc7, bc8]
      unfold r14_ids_L0E
      refine ⟨rfl, ?_⟩
      refine ⟨os7, v5, rfl, qos7, Av5, ?_⟩
      simp only [↓askB_true, ↓askB_false, beq_self_eq_true, wz, Nat.reduceAdd, Nat.reduceSub, Nat.reduceMul, Nat.reduceBEq, Nat.reduceEqDiff, Nat.reduceLeDiff, Nat.reduceLT, reduceCtorEq, Arc.e, Node.e, Pt.e, int1, bv5, f1, f2, f5, f6, bc7, bc8]
    · have bc8 : (b_2) = false := boolF c8
      rw [if_neg c8] at h
      obtain ⟨e4, he4, h⟩ := obind h
      have i7 := indexSl_at (enc := Node.e) he4 (sz := 3) rfl
      obtain ⟨l8, hl8, h⟩ := obind h
      obtain ⟨v8, w4, os8, hw4, sw4, fw4, kw4, Av8l, qos8, sbw4, kcw4, kbw4, kaw4, krw4⟩ := AccL.appT (os := os7) (v := v5) (x := .r (.lst [[cI e4.id]] (some 1))) (xs := l5) (ys := ([e4.id] : List Int)) int1_ok hl8 Av5.l qos7 rfl
      have bv8 := Av8l.rd.b
      replace kw4 := zeroEk_out kw4
      have Av8 := kcw4 (Or.inl (by simp))
      cases h
      simp only [stepQ_normal, ↓askB_true, ↓askB_false, beq_self_eq_true, wz, Nat.reduceAdd, Nat.reduceSub, Nat.reduceMul, Nat.reduceBEq, Nat.reduceEqDiff, Nat.reduceLeDiff, Nat.reduceLT, reduceCtorEq, Arc.e, Node.e, Pt.e, int1, bv5, f1, f2, f5, f6, bc7, bc8, i7, hw4, sw4, fw4, kw4, bv8]
      unfold r14_ids_L0R
      refine ⟨os8, v8, rfl, qos8, Av8, ?_⟩
      simp only [↓askB_true, ↓askB_false, beq_self_eq_true, wz, Nat.reduceAdd, Nat.reduceSub, Nat.reduceMul, Nat.reduceBEq, Nat.reduceEqDiff, Nat.reduceLeDiff, Nat.reduceLT, reduceCtorEq, Arc.e, Node.e, Pt.e, int1, bv5, f1, f2, f5, f6, bc7, bc8, i7, hw4, sw4, fw4, kw4, bv8]
  · have bc7 : (decide (i5 < ((a0.nodes.length : Int)))) = false := decF c7
    rw [if_neg c7] at h
    cases h
    simp only [stepQ_exit, stepQ_ret, ↓askB_true, ↓askB_false, beq_self_eq_true, wz, Nat.reduceAdd, Nat.reduceSub, Nat.reduceMul, Nat.reduceBEq, Nat.reduceEqDiff, Nat.reduceLeDiff, Nat.reduceLT, reduceCtorEq, Arc.e, Node.e, Pt.e, int1, bv5, f1, f2, f5, f6, bc7]
    unfold r14_ids_L0E
    refine ⟨rfl, ?_⟩
    refine ⟨os7, v5, rfl, qos7, Av5, ?_⟩
    simp only [↓askB_true, ↓askB_false, beq_self_eq_true, wz, Nat.reduceAdd, Nat.reduceSub, Nat.reduceMul, Nat.reduceBEq, Nat.reduceEqDiff, Nat.reduceLeDiff, Nat.reduceLT, reduceCtorEq, Arc.e, Node.e, Pt.e, int1, bv5, f1, f2, f5, f6, bc7]

def r14_ids_L1b (a0 : Plan) : Bool × (List Int) × Int → Option ((Bool × (List Int) × Int) ⊕ (((List Int)))) := fun (b_6, l14, i12) => (if i12 < ((a0.arcs.length : Int)) then (if b_6 = true then ((at_ a0.arcs i12).bind fun e8 => ((appO 8 l14 (([e8.id] : List Int))).bind fun l17 => some (.inl (true, l17, w64 (i12 + 1))))) else some (.inr l14)) else some (.inr l14))
def r14_ids_L1R (a0 : Plan) : Bool × (List Int) × Int → Fr → TS → Prop := fun (b_6, l14, i12) f S => ∃ os v14, S = E0 os ∧ OsOk os ∧ Acc os 1 v14 (List.map int1 l14) ∧ f 1 = B b_6 ∧ f 2 = .lv [.r (.lst (List.map Node.e a0.nodes) none), .r (.lst (List.map Arc.e a0.arcs) none), .r (.lst (List.map int1 a0.faces) none)] ∧ f 5 = v14 ∧ f 7 = I i12
def r14_ids_L1E (a0 : Plan) : (((List Int))) → TX → Fr → TS → Prop
  | l16, tx, f, S => tx = TX.exit 2 ∧ ∃ os v16, S = E0 os ∧ OsOk os ∧ Acc os 1 v16 (List.map int1 l16) ∧ f 5 = v16
noncomputable def r14_ids_L1 (a0 : Plan) (s : Bool × (List Int) × Int) : Option (((List Int))) := loopO (r14_ids_L1b a0) s
theorem r14_ids_L1_ok {a0 : Plan} {s : Bool × (List Int) × Int} {r : ((List Int))} {Q : TX → Fr → TS → Prop} (h : r14_ids_L1 a0 s = some r) {f : Fr} {S : TS} (hR : r14_ids_L1R a0 s f S) (hQ : ∀ tx f S, r14_ids_L1E a0 r tx f S → Q tx f S) : wp prog [2] (callX prog cfg (famT r14_ids_fams)) (.loop x56L1) Q f S := by
  refine wp_loopO x56L1.eq_1 ?_ h hR hQ
  clear hQ hR h
  intro s x f S h hR
  obtain ⟨b_6, l14, i12⟩ := s
  obtain ⟨os16, v14, rfl, qos16, Av14, f1, f2, f5, f7⟩ := hR
  have bv14 := Av14.rd.b
  unfold r14_ids_L1b at h
  try dsimp only at h
  by_cases c15 : i12 < ((a0.arcs.length : Int))
  · have bc15 : (decide (i12 < ((a0.arcs.length : Int)))) = true := decT c15
    rw [if_pos c15] at h
    by_cases c16 : b_6 = true
    · have bc16 : (b_6) = true := id c16
      rw [if_pos c16] at h
      obtain ⟨e8, he8, h⟩ := obind h
      have i14 := indexSl_at (enc := Arc.e) he8 (sz := 6) rfl
      obtain ⟨l17, hl17, h⟩ := obind h
      obtain ⟨v17, w8, os17, hw8, sw8, fw8, kw8, Av17l, qos17, sbw8, kcw8, kbw8, kaw8, krw8⟩ := AccL.appT (os := os16) (v := v14) (x := .r (.lst [[cI e8.id]] (some 1))) (xs := l14) (ys := ([e8.id] : List Int)) int1_ok hl17 Av14.l qos16 rfl
      have bv17 := Av17l.rd.b
      replace kw8 := zeroEk_out kw8
      have Av17 := kcw8 (Or.inl (by simp))
      cases h
      simp only [stepQ_normal, ↓askB_true, ↓askB_false, beq_self_eq_true, wz, Nat.reduceAdd, Nat.reduceSub, Nat.reduceMul, Nat.reduceBEq, Nat.reduceEqDiff, Nat.reduceLeDiff, Nat.reduceLT, reduceCtorEq, Arc.e, Node.e, Pt.e, int1, bv14, f1, f2, f5, f7, bc15, bc16, i14, hw8, sw8, fw8, kw8, bv17]
      unfold r14_ids_L1R
      refine ⟨os17, v17, rfl, qos17, Av17, ?_⟩
      simp only [↓askB_true, ↓askB_false, beq_self_eq_true, wz, Nat.reduceAdd, Nat.reduceSub, Nat.reduceMul, Nat.reduceBEq, Nat.reduceEqDiff, Nat.reduceLeDiff, Nat.reduceLT, reduceCtorEq, Arc.e, Node.e, Pt.e, int1, bv14, f1, f2, f5, f7, bc15, bc16, i14, hw8, sw8, fw8, kw8, bv17]
    · have bc16 : (b_6) = false := boolF c16
      rw [if_neg c16] at h
      cases h
      simp only [stepQ_exit, stepQ_ret, ↓askB_true, ↓askB_false, beq_self_eq_true, wz, Nat.reduceAdd, Nat.reduceSub, Nat.reduceMul, Nat.reduceBEq, Nat.reduceEqDiff, Nat.reduceLeDiff, Nat.reduceLT, reduceCtorEq, Arc.e, Node.e, Pt.e, int1, bv14, f1, f2, f5, f7, bc15, bc16]
      unfold r14_ids_L1E
      refine ⟨rfl, ?_⟩
      refine ⟨os16, v14, rfl, qos16, Av14, ?_⟩
      simp only [↓askB_true, ↓askB_false, beq_self_eq_true, wz, Nat.reduceAdd, Nat.reduceSub, Nat.reduceMul, Nat.reduceBEq, Nat.reduceEqDiff, Nat.reduceLeDiff, Nat.reduceLT, reduceCtorEq, Arc.e, Node.e, Pt.e, int1, bv14, f1, f2, f5, f7, bc15, bc16]
  · have bc15 : (decide (i12 < ((a0.arcs.length : Int)))) = false := decF c15
    rw [if_neg c15] at h
    cases h
    simp only [stepQ_exit, stepQ_ret, ↓askB_true, ↓askB_false, beq_self_eq_true, wz, Nat.reduceAdd, Nat.reduceSub, Nat.reduceMul, Nat.reduceBEq, Nat.reduceEqDiff, Nat.reduceLeDiff, Nat.reduceLT, reduceCtorEq, Arc.e, Node.e, Pt.e, int1, bv14, f1, f2, f5, f7, bc15]
    unfold r14_ids_L1E
    refine ⟨rfl, ?_⟩
    refine ⟨os16, v14, rfl, qos16, Av14, ?_⟩
    simp only [↓askB_true, ↓askB_false, beq_self_eq_true, wz, Nat.reduceAdd, Nat.reduceSub, Nat.reduceMul, Nat.reduceBEq, Nat.reduceEqDiff, Nat.reduceLeDiff, Nat.reduceLT, reduceCtorEq, Arc.e, Node.e, Pt.e, int1, bv14, f1, f2, f5, f7, bc15]

noncomputable def r14_ids (a0 : Plan) (a1 : Bool) : Option ((List Int)) := ((r14_ids_L0 a0 (a1, ([] : List Int), 0)).bind (fun (b_4, l9) => ((r14_ids_L1 a0 (b_4, l9, 0)).bind (fun l18 => some l18))))
theorem r14_ids_ok {a0 : Plan} {a1 : Bool} {r : (List Int)} (h : r14_ids a0 a1 = some r) : KOk (callL prog cfg (famT r14_ids_fams) 56 [.agg [.r (.lst (List.map Node.e a0.nodes) none), .r (.lst (List.map Arc.e a0.arcs) none), .r (.lst (List.map int1 a0.faces) none)], B a1] (E0 [])) 1 (List.map int1 r) := by
  refine callL_wpK cx56 (ax := [.agg [.r (.lst (List.map Node.e a0.nodes) none), .r (.lst (List.map Arc.e a0.arcs) none), .r (.lst (List.map int1 a0.faces) none)], B a1]) rfl rfl rfl ?_
  unfold r14_ids at h
  try dsimp only at h
  obtain ⟨x1, hx1, h⟩ := obind h
  simp only [↓askB_true, ↓askB_false, beq_self_eq_true, wz, Nat.reduceAdd, Nat.reduceSub, Nat.reduceMul, Nat.reduceBEq, Nat.reduceEqDiff, Nat.reduceLeDiff, Nat.reduceLT, reduceCtorEq, Arc.e, Node.e, Pt.e, int1, x56, x56B]
  refine r14_ids_L0_ok hx1 ?_ ?_
  · unfold r14_ids_L0R
    refine ⟨[], nilT, rfl, osok0, Acc.nil, ?_⟩
    simp only [↓askB_true, ↓askB_false, beq_self_eq_true, wz, Nat.reduceAdd, Nat.reduceSub, Nat.reduceMul, Nat.reduceBEq, Nat.reduceEqDiff, Nat.reduceLeDiff, Nat.reduceLT, reduceCtorEq, Arc.e, Node.e, Pt.e, int1, x56, x56B]
  intro tx f S hE
  obtain ⟨b_4, l9⟩ := x1
  try dsimp only [sumK] at h
  obtain ⟨rfl, os9, v9, rfl, qos9, Av9, f1, f2, f5⟩ := hE
  have bv9 := Av9.rd.b
  obtain ⟨x2, hx2, h⟩ := obind h
  simp only [↓askB_true, ↓askB_false, beq_self_eq_true, wz, Nat.reduceAdd, Nat.reduceSub, Nat.reduceMul, Nat.reduceBEq, Nat.reduceEqDiff, Nat.reduceLeDiff, Nat.reduceLT, reduceCtorEq, Arc.e, Node.e, Pt.e, int1, bv9, f1, f2, f5]
  refine r14_ids_L1_ok hx2 ?_ ?_
  · unfold r14_ids_L1R
    refine ⟨os9, v9, rfl, qos9, Av9, ?_⟩
    simp only [↓askB_true, ↓askB_false, beq_self_eq_true, wz, Nat.reduceAdd, Nat.reduceSub, Nat.reduceMul, Nat.reduceBEq, Nat.reduceEqDiff, Nat.reduceLeDiff, Nat.reduceLT, reduceCtorEq, Arc.e, Node.e, Pt.e, int1, bv9, f1, f2, f5]
  intro tx f S hE
  revert hx2 h hE; revert x2; intro l18 hx2 h hE
  try dsimp only [sumK] at h
  obtain ⟨rfl, os18, v18, rfl, qos18, Av18, f5⟩ := hE
  have bv18 := Av18.rd.b
  cases h
  simp only [↓askB_true, ↓askB_false, beq_self_eq_true, wz, Nat.reduceAdd, Nat.reduceSub, Nat.reduceMul, Nat.reduceBEq, Nat.reduceEqDiff, Nat.reduceLeDiff, Nat.reduceLT, reduceCtorEq, Arc.e, Node.e, Pt.e, int1, bv9, bv18, f5]
  refine ⟨os18, v18, rfl, Av18, ?_⟩
  exact resF_cons (resF1_of (by simp only [↓askB_true, ↓askB_false, beq_self_eq_true, wz, Nat.reduceAdd, Nat.reduceSub, Nat.reduceMul, Nat.reduceBEq, Nat.reduceEqDiff, Nat.reduceLeDiff, Nat.reduceLT, reduceCtorEq, Arc.e, Node.e, Pt.e, int1, bv9, bv18, f5]) bv18.2.1) resF_nil

noncomputable def r14_ids_fam : Fam := famC prog cfg (famT r14_ids_fams) 56
theorem r14_ids_val {a0 : Plan} {a1 : Bool} {r : (List Int)} (h : r14_ids a0 a1 = some r) : KVal (r14_ids_fam.val [.agg [.r (.lst (List.map Node.e a0.nodes) none), .r (.lst (List.map Arc.e a0.arcs) none), .r (.lst (List.map int1 a0.faces) none)], B a1]) 1 (List.map int1 r) := kval (r14_ids_ok h) rfl
theorem r14_ids_goods : ∀ x, x ∈ r14_ids_fams → x.Good prog := goods0
theorem r14_ids_good : r14_ids_fam.Good prog := famC_good sound r14_ids_goods
/- 55: mapsheets/mapsheetsref14.ascending -/
noncomputable def r14_ascending_fams : List Fam := []
def r14_ascending_L0b (a0 : List Int) : Int → Option ((Int) ⊕ ((Unit) ⊕ (Unit))) := fun i4 => (if i4 < ((a0.length : Int)) then ((at_ a0 (w64 (i4 - 1))).bind fun e5 => ((at_ a0 i4).bind fun e6 => (if e5 ≥ e6 then some (.inr (Sum.inl ())) else some (.inl (w64 (i4 + 1)))))) else some (.inr (Sum.inr ())))
def r14_ascending_L0R (a0 : List Int) : Int → Fr → TS → Prop := fun i4 f S => S = E0 [] ∧ f 0 = .r (.lst (List.map int1 a0) none) ∧ f 3 = I i4
def r14_ascending_L0E (a0 : List Int) : ((Unit) ⊕ (Unit)) → TX → Fr → TS → Prop
  | (Sum.inl ()), tx, f, S => tx = TX.ret ∧ S = E0 [] ∧ f 2 = B false
  | (Sum.inr ()), tx, f, S => tx = TX.exit 0 ∧ S = E0 []
noncomputable def r14_ascending_L0 (a0 : List Int) (s : Int) : Option ((Unit) ⊕ (Unit)) := loopO (r14_ascending_L0b a0) s
theorem r14_ascending_L0_ok {a0 : List Int} {s : Int} {r : (Unit) ⊕ (Unit)} {Q : TX → Fr → TS → Prop} (h : r14_ascending_L0 a0 s = some r) {f : Fr} {S : TS} (hR : r14_ascending_L0R a0 s f S) (hQ : ∀ tx f S, r14_ascending_L0E a0 r tx f S → Q tx f S) : wp prog [] (callX prog cfg (famT r14_ascending_fams)) (.loop x55L0) Q f S := by
  refine wp_loopO x55L0.eq_1 ?_ h hR hQ
  clear hQ hR h
  intro s x f S h hR
  revert h hR; revert s; intro i4 h hR
  obtain ⟨rfl, f0, f3⟩ := hR
  unfold r14_ascending_L0b at h
  try dsimp only at h
  by_cases c5 : i4 < ((a0.length : Int))
  · have bc5 : (decide (i4 < ((a0.length : Int)))) = true := decT c5
    rw [if_pos c5] at h
    obtain ⟨e5, he5, h⟩ := obind h
    have i7 := indexSl_at (enc := int1) he5 (sz := 1) rfl
    obtain ⟨e6, he6, h⟩ := obind h
    have i8 := indexSl_at (enc := int1) he6 (sz := 1) rfl
    by_cases c6 : e5 ≥ e6
    · have bc6 : (decide (e5 ≥ e6)) = true := decT c6
      rw [if_pos c6] at h
      cases h
      simp only [stepQ_exit, stepQ_ret, r14_ascending_L0E, ↓askB_true, ↓askB_false, beq_self_eq_true, wz, Nat.reduceAdd, Nat.reduceSub, Nat.reduceMul, Nat.reduceBEq, Nat.reduceEqDiff, Nat.reduceLeDiff, Nat.reduceLT, reduceCtorEq, int1, f0, f3, bc5, i7, i8, bc6]
    · have bc6 : (decide (e5 ≥ e6)) = false := decF c6
      rw [if_neg c6] at h
      cases h
      simp only [stepQ_normal, r14_ascending_L0R, ↓askB_true, ↓askB_false, beq_self_eq_true, wz, Nat.reduceAdd, Nat.reduceSub, Nat.reduceMul, Nat.reduceBEq, Nat.reduceEqDiff, Nat.reduceLeDiff, Nat.reduceLT, reduceCtorEq, int1, f0, f3, bc5, i7, i8, bc6]
  · have bc5 : (decide (i4 < ((a0.length : Int)))) = false := decF c5
    rw [if_neg c5] at h
    cases h
    simp only [stepQ_exit, stepQ_ret, r14_ascending_L0E, ↓askB_true, ↓askB_false, beq_self_eq_true, wz, Nat.reduceAdd, Nat.reduceSub, Nat.reduceMul, Nat.reduceBEq, Nat.reduceEqDiff, Nat.reduceLeDiff, Nat.reduceLT, reduceCtorEq, int1, f0, f3, bc5]

noncomputable def r14_ascending (a0 : List Int) : Option (Bool) := ((r14_ascending_L0 a0 1).bind (fun x1 => sumK x1 (fun _ => some false) (fun _ => some true)))
theorem r14_ascending_ok {a0 : List Int} {r : Bool} (h : r14_ascending a0 = some r) : callL prog cfg (famT r14_ascending_fams) 55 [.r (.lst (List.map int1 a0) none)] (E0 []) = some (B r, E0 [], none) := by
  refine callL_wpG cx55 (ax := [.r (.lst (List.map int1 a0) none)]) rfl rfl ?_
  unfold r14_ascending at h
  try dsimp only at h
  obtain ⟨x1, hx1, h⟩ := obind h
  simp only [↓askB_true, ↓askB_false, beq_self_eq_true, wz, Nat.reduceAdd, Nat.reduceSub, Nat.reduceMul, Nat.reduceBEq, Nat.reduceEqDiff, Nat.reduceLeDiff, Nat.reduceLT, reduceCtorEq, int1, x55, x55B]
  refine r14_ascending_L0_ok hx1 ?_ ?_
  · simp only [r14_ascending_L0R, ↓askB_true, ↓askB_false, beq_self_eq_true, wz, Nat.reduceAdd, Nat.reduceSub, Nat.reduceMul, Nat.reduceBEq, Nat.reduceEqDiff, Nat.reduceLeDiff, Nat.reduceLT, reduceCtorEq, int1, x55, x55B]
  intro tx f S hE
  rcases x1 with _u | _u
  · try dsimp only [sumK] at h
    obtain ⟨rfl, rfl, f2⟩ := hE
    cases h
    simp only [retG, ↓askB_true, ↓askB_false, beq_self_eq_true, wz, Nat.reduceAdd, Nat.reduceSub, Nat.reduceMul, Nat.reduceBEq, Nat.reduceEqDiff, Nat.reduceLeDiff, Nat.reduceLT, reduceCtorEq, int1, f2]
  · try dsimp only [sumK] at h
    obtain ⟨rfl, rfl⟩ := hE
    cases h
    simp only [retG, ↓askB_true, ↓askB_false, beq_self_eq_true, wz, Nat.reduceAdd, Nat.reduceSub, Nat.reduceMul, Nat.reduceBEq, Nat.reduceEqDiff, Nat.reduceLeDiff, Nat.reduceLT, reduceCtorEq, int1]

noncomputable def r14_ascending_fam : Fam := famC prog cfg (famT r14_ascending_fams) 55
theorem r14_ascending_val {a0 : List Int} {r : Bool} (h : r14_ascending a0 = some r) : r14_ascending_fam.val [.r (.lst (List.map int1 a0) none)] = some (.flat (B r)) := famC_flat (r14_ascending_ok h) rfl rfl
def r14_ascending_At (fams : List Fam) : Prop := ∀  {a0 : List Int} {r : Bool} {xs_ : List TV} {os os1 : List TO}, r14_ascending a0 = some r → argsT false (E0 os) xs_ = some ([.r (.lst (List.map int1 a0) none)], E0 os1) → callX prog cfg (famT fams) 55 xs_ (E0 os) = some (B r, E0 os1, none)
theorem r14_ascending_goods : ∀ x, x ∈ r14_ascending_fams → x.Good prog := goods0
theorem r14_ascending_good : r14_ascending_fam.Good prog := famC_good sound r14_ascending_goods
/- 86: mapsheets/mapsheetsref14.Points -/
noncomputable def r14_Points_fams : List Fam := []
def r14_Points_L0b (a0 : Plan) : (List Pt) × Int → Option (((List Pt) × Int) ⊕ (((List Pt)))) := fun (l3, i3) => (if i3 < ((a0.nodes.length : Int)) then ((at_ a0.nodes i3).bind fun e3 => ((appO 16 l3 (([e3.pt] : List Pt))).bind fun l6 => some (.inl (l6, w64 (i3 + 1))))) else some (.inr l3))
def r14_Points_L0R (a0 : Plan) : (List Pt) × Int → Fr → TS → Prop := fun (l3, i3) f S => ∃ os v3, S = E0 os ∧ OsOk os ∧ Acc os 2 v3 (List.map Pt.e l3) ∧ f 1 = .lv [.r (.lst (List.map Node.e a0.nodes) none), .r (.lst (List.map Arc.e a0.arcs) none), .r (.lst (List.map int1 a0.faces) none)] ∧ f 3 = v3 ∧ f 4 = I i3
def r14_Points_L0E (a0 : Plan) : (((List Pt))) → TX → Fr → TS → Prop
  | l5, tx, f, S => tx = TX.exit 0 ∧ ∃ os v5, S = E0 os ∧ OsOk os ∧ Acc os 2 v5 (List.map Pt.e l5) ∧ f 1 = .lv [.r (.lst (List.map Node.e a0.nodes) none), .r (.lst (List.map Arc.e a0.arcs) none), .r (.lst (List.map int1 a0.faces) none)] ∧ f 3 = v5
noncomputable def r14_Points_L0 (a0 : Plan) (s : (List Pt) × Int) : Option (((List Pt))) := loopO (r14_Points_L0b a0) s
theorem r14_Points_L0_ok {a0 : Plan} {s : (List Pt) × Int} {r : ((List Pt))} {Q : TX → Fr → TS → Prop} (h : r14_Points_L0 a0 s = some r) {f : Fr} {S : TS} (hR : r14_Points_L0R a0 s f S) (hQ : ∀ tx f S, r14_Points_L0E a0 r tx f S → Q tx f S) : wp prog [1] (callX prog cfg (famT r14_Points_fams)) (.loop x86L0) Q f S := by
  refine wp_loopO x86L0.eq_1 ?_ h hR hQ
  clear hQ hR h
  intro s x f S h hR
  obtain ⟨l3, i3⟩ := s
  obtain ⟨os5, v3, rfl, qos5, Av3, f1, f3, f4⟩ := hR
  have bv3 := Av3.rd.b
  unfold r14_Points_L0b at h
  try dsimp only at h
  by_cases c3 : i3 < ((a0.nodes.length : Int))
  · have bc3 : (decide (i3 < ((a0.nodes.length : Int)))) = true := decT c3
    rw [if_pos c3] at h
    obtain ⟨e3, he3, h⟩ := obind h
    have i5 := indexSl_at (enc := Node.e) he3 (sz := 3) rfl
    obtain ⟨l6, hl6, h⟩ := obind h
    obtain ⟨v6, w3, os6, hw3, sw3, fw3, kw3, Av6l, qos6, sbw3, kcw3, kbw3, kaw3, krw3⟩ := AccL.appT (os := os5) (v := v3) (x := .r (.lst [[cI e3.pt.x, cI e3.pt.y]] (some 1))) (xs := l3) (ys := ([e3.pt] : List Pt)) Pt.eok hl6 Av3.l qos5 rfl
    have bv6 := Av6l.rd.b
    replace kw3 := zeroEk_out kw3
    have Av6 := kcw3 (Or.inl (by simp))
    cases h
    simp only [stepQ_normal, ↓askB_true, ↓askB_false, beq_self_eq_true, wz, Nat.reduceAdd, Nat.reduceSub, Nat.reduceMul, Nat.reduceBEq, Nat.reduceEqDiff, Nat.reduceLeDiff, Nat.reduceLT, reduceCtorEq, Arc.e, Node.e, Pt.e, int1, bv3, f1, f3, f4, bc3, i5, hw3, sw3, fw3, kw3, bv6]
    unfold r14_Points_L0R
    refine ⟨os6, v6, rfl, qos6, Av6, ?_⟩
    simp only [↓askB_true, ↓askB_false, beq_self_eq_true, wz, Nat.reduceAdd, Nat.reduceSub, Nat.reduceMul, Nat.reduceBEq, Nat.reduceEqDiff, Nat.reduceLeDiff, Nat.reduceLT, reduceCtorEq, Arc.e, Node.e, Pt.e, int1, bv3, f1, f3, f4, bc3, i5, hw3, sw3, fw3, kw3, bv6]
  · have bc3 : (decide (i3 < ((a0.nodes.length : Int)))) = false := decF c3
    rw [if_neg c3] at h
    cases h
    simp only [stepQ_exit, stepQ_ret, ↓askB_true, ↓askB_false, beq_self_eq_true, wz, Nat.reduceAdd, Nat.reduceSub, Nat.reduceMul, Nat.reduceBEq, Nat.reduceEqDiff, Nat.reduceLeDiff, Nat.reduceLT, reduceCtorEq, Arc.e, Node.e, Pt.e, int1, bv3, f1, f3, f4, bc3]
    unfold r14_Points_L0E
    refine ⟨rfl, ?_⟩
    refine ⟨os5, v3, rfl, qos5, Av3, ?_⟩
    simp only [↓askB_true, ↓askB_false, beq_self_eq_true, wz, Nat.reduceAdd, Nat.reduceSub, Nat.reduceMul, Nat.reduceBEq, Nat.reduceEqDiff, Nat.reduceLeDiff, Nat.reduceLT, reduceCtorEq, Arc.e, Node.e, Pt.e, int1, bv3, f1, f3, f4, bc3]

def r14_Points_L1b (a0 : Plan) : (List Pt) × Int → Option (((List Pt) × Int) ⊕ (((List Pt)))) := fun (l10, i8) => (if i8 < ((a0.arcs.length : Int)) then ((at_ a0.arcs i8).bind fun e6 => ((appO 16 l10 e6.via).bind fun l13 => some (.inl (l13, w64 (i8 + 1))))) else some (.inr l10))
def r14_Points_L1R (a0 : Plan) : (List Pt) × Int → Fr → TS → Prop := fun (l10, i8) f S => ∃ os v10, S = E0 os ∧ OsOk os ∧ Acc os 2 v10 (List.map Pt.e l10) ∧ f 1 = .lv [.r (.lst (List.map Node.e a0.nodes) none), .r (.lst (List.map Arc.e a0.arcs) none), .r (.lst (List.map int1 a0.faces) none)] ∧ f 3 = v10 ∧ f 5 = I i8
def r14_Points_L1E (a0 : Plan) : (((List Pt))) → TX → Fr → TS → Prop
  | l12, tx, f, S => tx = TX.exit 2 ∧ ∃ os v12, S = E0 os ∧ OsOk os ∧ Acc os 2 v12 (List.map Pt.e l12) ∧ f 3 = v12
noncomputable def r14_Points_L1 (a0 : Plan) (s : (List Pt) × Int) : Option (((List Pt))) := loopO (r14_Points_L1b a0) s
theorem r14_Points_L1_ok {a0 : Plan} {s : (List Pt) × Int} {r : ((List Pt))} {Q : TX → Fr → TS → Prop} (h : r14_Points_L1 a0 s = some r) {f : Fr} {S : TS} (hR : r14_Points_L1R a0 s f S) (hQ : ∀ tx f S, r14_Points_L1E a0 r tx f S → Q tx f S) : wp prog [1] (callX prog cfg (famT r14_Points_fams)) (.loop x86L1) Q f S := by
  refine wp_loopO x86L1.eq_1 ?_ h hR hQ
  clear hQ hR h
  intro s x f S h hR
  obtain ⟨l10, i8⟩ := s
  obtain ⟨os12, v10, rfl, qos12, Av10, f1, f3, f5⟩ := hR
  have bv10 := Av10.rd.b
  unfold r14_Points_L1b at h
  try dsimp only at h
  by_cases c6 : i8 < ((a0.arcs.length : Int))
  · have bc6 : (decide (i8 < ((a0.arcs.length : Int)))) = true := decT c6
    rw [if_pos c6] at h
    obtain ⟨e6, he6, h⟩ := obind h
    have i10 := indexSl_at (enc := Arc.e) he6 (sz := 6) rfl
    obtain ⟨l13, hl13, h⟩ := obind h
    obtain ⟨v13, w6, os13, hw6, sw6, fw6, kw6, Av13l, qos13, sbw6, kcw6, kbw6, kaw6, krw6⟩ := AccL.appT (os := os12) (v := v10) (x := .r (.lst (List.map Pt.e e6.via) none)) (xs := l10) (ys := e6.via) Pt.eok hl13 Av10.l qos12 rfl
    have bv13 := Av13l.rd.b
    replace kw6 := zeroEk_out kw6
    have Av13 := kcw6 (Or.inr Av10)
    cases h
    simp only [stepQ_normal, ↓askB_true, ↓askB_false, beq_self_eq_true, wz, Nat.reduceAdd, Nat.reduceSub, Nat.reduceMul, Nat.reduceBEq, Nat.reduceEqDiff, Nat.reduceLeDiff, Nat.reduceLT, reduceCtorEq, Arc.e, Node.e, Pt.e, int1, bv10, f1, f3, f5, bc6, i10, hw6, sw6, fw6, kw6, bv13]
    unfold r14_Points_L1R
    refine ⟨os13, v13, rfl, qos13, Av13, ?_⟩
    simp only [↓askB_true, ↓askB_false, beq_self_eq_true, wz, Nat.reduceAdd, Nat.reduceSub, Nat.reduceMul, Nat.reduceBEq, Nat.reduceEqDiff, Nat.reduceLeDiff, Nat.reduceLT, reduceCtorEq, Arc.e, Node.e, Pt.e, int1, bv10, f1, f3, f5, bc6, i10, hw6, sw6, fw6, kw6, bv13]
  · have bc6 : (decide (i8 < ((a0.arcs.length : Int)))) = false := decF c6
    rw [if_neg c6] at h
    cases h
    simp only [stepQ_exit, stepQ_ret, ↓askB_true, ↓askB_false, beq_self_eq_true, wz, Nat.reduceAdd, Nat.reduceSub, Nat.reduceMul, Nat.reduceBEq, Nat.reduceEqDiff, Nat.reduceLeDiff, Nat.reduceLT, reduceCtorEq, Arc.e, Node.e, Pt.e, int1, bv10, f1, f3, f5, bc6]
    unfold r14_Points_L1E
    refine ⟨rfl, ?_⟩
    refine ⟨os12, v10, rfl, qos12, Av10, ?_⟩
    simp only [↓askB_true, ↓askB_false, beq_self_eq_true, wz, Nat.reduceAdd, Nat.reduceSub, Nat.reduceMul, Nat.reduceBEq, Nat.reduceEqDiff, Nat.reduceLeDiff, Nat.reduceLT, reduceCtorEq, Arc.e, Node.e, Pt.e, int1, bv10, f1, f3, f5, bc6]

noncomputable def r14_Points (a0 : Plan) : Option ((List Pt)) := ((r14_Points_L0 a0 (([] : List Pt), 0)).bind (fun l7 => ((r14_Points_L1 a0 (l7, 0)).bind (fun l14 => some l14))))
theorem r14_Points_ok {a0 : Plan} {r : (List Pt)} (h : r14_Points a0 = some r) : callL prog cfg (famT r14_Points_fams) 86 [.agg [.r (.lst (List.map Node.e a0.nodes) none), .r (.lst (List.map Arc.e a0.arcs) none), .r (.lst (List.map int1 a0.faces) none)]] (E0 []) = some (.r (.lst (List.map Pt.e r) none), E0 [], none) := by
  refine callL_wpG cx86 (ax := [.agg [.r (.lst (List.map Node.e a0.nodes) none), .r (.lst (List.map Arc.e a0.arcs) none), .r (.lst (List.map int1 a0.faces) none)]]) rfl rfl ?_
  unfold r14_Points at h
  try dsimp only at h
  obtain ⟨x1, hx1, h⟩ := obind h
  simp only [↓askB_true, ↓askB_false, beq_self_eq_true, wz, Nat.reduceAdd, Nat.reduceSub, Nat.reduceMul, Nat.reduceBEq, Nat.reduceEqDiff, Nat.reduceLeDiff, Nat.reduceLT, reduceCtorEq, Arc.e, Node.e, Pt.e, int1, x86, x86B]
  refine r14_Points_L0_ok hx1 ?_ ?_
  · unfold r14_Points_L0R
    refine ⟨[], nilT, rfl, osok0, Acc.nil, ?_⟩
    simp only [↓askB_true, ↓askB_false, beq_self_eq_true, wz, Nat.reduceAdd, Nat.reduceSub, Nat.reduceMul, Nat.reduceBEq, Nat.reduceEqDiff, Nat.reduceLeDiff, Nat.reduceLT, reduceCtorEq, Arc.e, Node.e, Pt.e, int1, x86, x86B]
  intro tx f S hE
  revert hx1 h hE; revert x1; intro l7 hx1 h hE
  try dsimp only [sumK] at h
  obtain ⟨rfl, os7, v7, rfl, qos7, Av7, f1, f3⟩ := hE
  have bv7 := Av7.rd.b
  obtain ⟨x2, hx2, h⟩ := obind h
  simp only [↓askB_true, ↓askB_false, beq_self_eq_true, wz, Nat.reduceAdd, Nat.reduceSub, Nat.reduceMul, Nat.reduceBEq, Nat.reduceEqDiff, Nat.reduceLeDiff, Nat.reduceLT, reduceCtorEq, Arc.e, Node.e, Pt.e, int1, bv7, f1, f3]
  refine r14_Points_L1_ok hx2 ?_ ?_
  · unfold r14_Points_L1R
    refine ⟨os7, v7, rfl, qos7, Av7, ?_⟩
    simp only [↓askB_true, ↓askB_false, beq_self_eq_true, wz, Nat.reduceAdd, Nat.reduceSub, Nat.reduceMul, Nat.reduceBEq, Nat.reduceEqDiff, Nat.reduceLeDiff, Nat.reduceLT, reduceCtorEq, Arc.e, Node.e, Pt.e, int1, bv7, f1, f3]
  intro tx f S hE
  revert hx2 h hE; revert x2; intro l14 hx2 h hE
  try dsimp only [sumK] at h
  obtain ⟨rfl, os14, v14, rfl, qos14, Av14, f3⟩ := hE
  have bv14 := Av14.rd.b
  cases h
  simp only [↓askB_true, ↓askB_false, beq_self_eq_true, wz, Nat.reduceAdd, Nat.reduceSub, Nat.reduceMul, Nat.reduceBEq, Nat.reduceEqDiff, Nat.reduceLeDiff, Nat.reduceLT, reduceCtorEq, Arc.e, Node.e, Pt.e, int1, bv7, bv14, f3]
  obtain ⟨os15, zos15, kzos15, qos15⟩ := Av14.rd.frz qos14
  have A1 := kzos15.own _ _ _ Av14
  refine retG_of (vs := [v14]) (resF_cons (resF1_of (by simp only [↓askB_true, ↓askB_false, beq_self_eq_true, wz, Nat.reduceAdd, Nat.reduceSub, Nat.reduceMul, Nat.reduceBEq, Nat.reduceEqDiff, Nat.reduceLeDiff, Nat.reduceLT, reduceCtorEq, Arc.e, Node.e, Pt.e, int1, bv7, bv14, f3]) bv14.2.1) resF_nil) (freezeVs_cons (freezeV_rd Av14.rd zos15) rfl)

noncomputable def r14_Points_fam : Fam := famC prog cfg (famT r14_Points_fams) 86
theorem r14_Points_val {a0 : Plan} {r : (List Pt)} (h : r14_Points a0 = some r) : r14_Points_fam.val [.agg [.r (.lst (List.map Node.e a0.nodes) none), .r (.lst (List.map Arc.e a0.arcs) none), .r (.lst (List.map int1 a0.faces) none)]] = some (.flat (.r (.lst (List.map Pt.e r) none))) := famC_flat (r14_Points_ok h) rfl rfl
def r14_Points_At (fams : List Fam) : Prop := ∀  {a0 : Plan} {r : (List Pt)} {xs_ : List TV} {os os1 : List TO}, r14_Points a0 = some r → argsT false (E0 os) xs_ = some ([.agg [.r (.lst (List.map Node.e a0.nodes) none), .r (.lst (List.map Arc.e a0.arcs) none), .r (.lst (List.map int1 a0.faces) none)]], E0 os1) → callX prog cfg (famT fams) 86 xs_ (E0 os) = some (.r (.lst (List.map Pt.e r) none), E0 os1, none)
theorem r14_Points_goods : ∀ x, x ∈ r14_Points_fams → x.Good prog := goods0
theorem r14_Points_good : r14_Points_fam.Good prog := famC_good sound r14_Points_goods
/- 87: mapsheets/mapsheetsref14.Valid -/
noncomputable def r14_Valid_fams : List Fam := []
noncomputable def r14_Valid (a0 : Pt) : Option (Bool) := (if a0.x ≥ ((-1048576)) then (if a0.x ≤ 1048576 then (if a0.y ≥ ((-1048576)) then some (decide (a0.y ≤ 1048576)) else some false) else some false) else some false)
theorem r14_Valid_ok {a0 : Pt} {r : Bool} (h : r14_Valid a0 = some r) : callL prog cfg (famT r14_Valid_fams) 87 [.agg [I a0.x, I a0.y]] (E0 []) = some (B r, E0 [], none) := by
  refine callL_wpG cx87 (ax := [.agg [I a0.x, I a0.y]]) rfl rfl ?_
  unfold r14_Valid at h
  try dsimp only at h
  by_cases c1 : a0.x ≥ ((-1048576))
  · have bc1 : (decide (a0.x ≥ ((-1048576)))) = true := decT c1
    rw [if_pos c1] at h
    by_cases c2 : a0.x ≤ 1048576
    · have bc2 : (decide (a0.x ≤ 1048576)) = true := decT c2
      rw [if_pos c2] at h
      by_cases c3 : a0.y ≥ ((-1048576))
      · have bc3 : (decide (a0.y ≥ ((-1048576)))) = true := decT c3
        rw [if_pos c3] at h
        cases h
        simp only [retG, ↓askB_true, ↓askB_false, beq_self_eq_true, wz, Nat.reduceAdd, Nat.reduceSub, Nat.reduceMul, Nat.reduceBEq, Nat.reduceEqDiff, Nat.reduceLeDiff, Nat.reduceLT, reduceCtorEq, bc1, bc2, bc3, x87, x87B]
      · have bc3 : (decide (a0.y ≥ ((-1048576)))) = false := decF c3
        rw [if_neg c3] at h
        cases h
        simp only [retG, ↓askB_true, ↓askB_false, beq_self_eq_true, wz, Nat.reduceAdd, Nat.reduceSub, Nat.reduceMul, Nat.reduceBEq, Nat.reduceEqDiff, Nat.reduceLeDiff, Nat.reduceLT, reduceCtorEq, bc1, bc2, bc3, x87, x87B]
    · have bc2 : (decide (a0.x ≤ 1048576)) = false := decF c2
      rw [if_neg c2] at h
      cases h
      simp only [retG, ↓askB_true, ↓askB_false, beq_self_eq_true, wz, Nat.reduceAdd, Nat.reduceSub, Nat.reduceMul, Nat.reduceBEq, Nat.reduceEqDiff, Nat.reduceLeDiff, Nat.reduceLT, reduceCtorEq, bc1, bc2, x87, x87B]
  · have bc1 : (decide (a0.x ≥ ((-1048576)))) = false := decF c1
    rw [if_neg c1] at h
    cases h
    simp only [retG, ↓askB_true, ↓askB_false, beq_self_eq_true, wz, Nat.reduceAdd, Nat.reduceSub, Nat.reduceMul, Nat.reduceBEq, Nat.reduceEqDiff, Nat.reduceLeDiff, Nat.reduceLT, reduceCtorEq, bc1, x87, x87B]

noncomputable def r14_Valid_fam : Fam := famC prog cfg (famT r14_Valid_fams) 87
theorem r14_Valid_val {a0 : Pt} {r : Bool} (h : r14_Valid a0 = some r) : r14_Valid_fam.val [.agg [I a0.x, I a0.y]] = some (.flat (B r)) := famC_flat (r14_Valid_ok h) rfl rfl
def r14_Valid_At (fams : List Fam) : Prop := ∀  {a0 : Pt} {r : Bool} {xs_ : List TV} {os os1 : List TO}, r14_Valid a0 = some r → argsT false (E0 os) xs_ = some ([.agg [I a0.x, I a0.y]], E0 os1) → callX prog cfg (famT fams) 87 xs_ (E0 os) = some (B r, E0 os1, none)
theorem r14_Valid_goods : ∀ x, x ∈ r14_Valid_fams → x.Good prog := goods0
theorem r14_Valid_good : r14_Valid_fam.Good prog := famC_good sound r14_Valid_goods
/- 57: mapsheets/mapsheetsref14.ranges -/
noncomputable def r14_ranges_fams : List Fam := [r14_ids_fam, r14_Points_fam, r14_Valid_fam]
def r14_ranges_L0b (a0 : Plan) : (List Int) × Int → Option (((List Int) × Int) ⊕ ((Unit) ⊕ (Unit))) := fun (l4, i4) => (if i4 < ((l4.length : Int)) then ((at_ l4 i4).bind fun e3 => (if e3 < 1 then some (.inr (Sum.inl ())) else (if e3 > 1073741824 then some (.inr (Sum.inl ())) else some (.inl (l4, w64 (i4 + 1)))))) else some (.inr (Sum.inr ())))
def r14_ranges_L0R (a0 : Plan) : (List Int) × Int → Fr → TS → Prop := fun (l4, i4) f S => ∃ os v6, S = E0 os ∧ OsOk os ∧ Acc os 1 v6 (List.map int1 l4) ∧ f 1 = .lv [.r (.lst (List.map Node.e a0.nodes) none), .r (.lst (List.map Arc.e a0.arcs) none), .r (.lst (List.map int1 a0.faces) none)] ∧ f 3 = v6 ∧ f 4 = I i4
def r14_ranges_L0E (a0 : Plan) : ((Unit) ⊕ (Unit)) → TX → Fr → TS → Prop
  | (Sum.inl ()), tx, f, S => tx = TX.ret ∧ ∃ os, S = E0 os ∧ OsOk os ∧ f 2 = B false
  | (Sum.inr ()), tx, f, S => tx = TX.exit 0 ∧ ∃ os, S = E0 os ∧ OsOk os ∧ f 1 = .lv [.r (.lst (List.map Node.e a0.nodes) none), .r (.lst (List.map Arc.e a0.arcs) none), .r (.lst (List.map int1 a0.faces) none)]
noncomputable def r14_ranges_L0 (a0 : Plan) (s : (List Int) × Int) : Option ((Unit) ⊕ (Unit)) := loopO (r14_ranges_L0b a0) s
theorem r14_ranges_L0_ok {a0 : Plan} {s : (List Int) × Int} {r : (Unit) ⊕ (Unit)} {Q : TX → Fr → TS → Prop} (h : r14_ranges_L0 a0 s = some r) {f : Fr} {S : TS} (hR : r14_ranges_L0R a0 s f S) (hQ : ∀ tx f S, r14_ranges_L0E a0 r tx f S → Q tx f S) : wp prog [1] (callX prog cfg (famT r14_ranges_fams)) (.loop x57L0) Q f S := by
  refine wp_loopO x57L0.eq_1 ?_ h hR hQ
  clear hQ hR h
  intro s x f S h hR
  obtain ⟨l4, i4⟩ := s
  obtain ⟨os7, v6, rfl, qos7, Av6, f1, f3, f4⟩ := hR
  have bv6 := Av6.rd.b
  unfold r14_ranges_L0b at h
  try dsimp only at h
  have n3 := Av6.rd.len
  by_cases c7 : i4 < ((l4.length : Int))
  · have bc7 : (decide (i4 < ((l4.length : Int)))) = true := decT c7
    rw [if_pos c7] at h
    obtain ⟨e3, he3, h⟩ := obind h
    obtain ⟨p5, w11, hp5, fw11, sw11, kw11, Ep5⟩ := Av6.rd.idx he3 rfl
    have ow11 := lowEk_out kw11
    have bp5 := Ep5.b
    obtain ⟨w12, hw12, fw12, sw12, kw12⟩ := Ep5.load (n := 1) (ag := false) (w := I e3) rfl
    have ow12 := lowEk_out kw12
    by_cases c8 : e3 < 1
    · have bc8 : (decide (e3 < 1)) = true := decT c8
      rw [if_pos c8] at h
      cases h
      simp only [stepQ_exit, stepQ_ret, ↓askB_true, ↓askB_false, beq_self_eq_true, wz, Nat.reduceAdd, Nat.reduceSub, Nat.reduceMul, Nat.reduceBEq, Nat.reduceEqDiff, Nat.reduceLeDiff, Nat.reduceLT, reduceCtorEq, Arc.e, Node.e, Pt.e, int1, bv6, f1, f3, f4, n3, bc7, hp5, fw11, sw11, bp5, ow11, hw12, fw12, sw12, ow12, bc8]
      unfold r14_ranges_L0E
      refine ⟨rfl, ?_⟩
      refine ⟨os7, rfl, qos7, ?_⟩
      simp only [↓askB_true, ↓askB_false, beq_self_eq_true, wz, Nat.reduceAdd, Nat.reduceSub, Nat.reduceMul, Nat.reduceBEq, Nat.reduceEqDiff, Nat.reduceLeDiff, Nat.reduceLT, reduceCtorEq, Arc.e, Node.e, Pt.e, int1, bv6, f1, f3, f4, n3, bc7, hp5, fw11, sw11, bp5, ow11, hw12, fw12, sw12, ow12, bc8]
    · have bc8 : (decide (e3 < 1)) = false := decF c8
      rw [if_neg c8] at h
      obtain ⟨p6, w13, hp6, fw13, sw13, kw13, Ep6⟩ := Av6.rd.idx he3 rfl
      have ow13 := lowEk_out kw13
      have bp6 := Ep6.b
      obtain ⟨w14, hw14, fw14, sw14, kw14⟩ := Ep6.load (n := 1) (ag := false) (w := I e3) rfl
      have ow14 := lowEk_out kw14
      by_cases c9 : e3 > 1073741824
      · have bc9 : (decide (e3 > 1073741824)) = true := decT c9
        rw [if_pos c9] at h
        cases h
        simp only [stepQ_exit, stepQ_ret, ↓askB_true, ↓askB_false, beq_self_eq_true, wz, Nat.reduceAdd, Nat.reduceSub, Nat.reduceMul, Nat.reduceBEq, Nat.reduceEqDiff, Nat.reduceLeDiff, Nat.reduceLT, reduceCtorEq, Arc.e, Node.e, Pt.e, int1, bv6, f1, f3, f4, n3, bc7, hp5, fw11, sw11, bp5, ow11, hw12, fw12, sw12, ow12, bc8, hp6, fw13, sw13, bp6, ow13, hw14, fw14, sw14, ow14, bc9]
        unfold r14_ranges_L0E
        refine ⟨rfl, ?_⟩
        refine ⟨os7, rfl, qos7, ?_⟩
        simp only [↓askB_true, ↓askB_false, beq_self_eq_true, wz, Nat.reduceAdd, Nat.reduceSub, Nat.reduceMul, Nat.reduceBEq, Nat.reduceEqDiff, Nat.reduceLeDiff, Nat.reduceLT, reduceCtorEq, Arc.e, Node.e, Pt.e, int1, bv6, f1, f3, f4, n3, bc7, hp5, fw11, sw11, bp5, ow11, hw12, fw12, sw12, ow12, bc8, hp6, fw13, sw13, bp6, ow13, hw14, fw14, sw14, ow14, bc9]
      · have bc9 : (decide (e3 > 1073741824)) = false := decF c9
        rw [if_neg c9] at h
        cases h
        simp only [stepQ_normal, ↓askB_true, ↓askB_false, beq_self_eq_true, wz, Nat.reduceAdd, Nat.reduceSub, Nat.reduceMul, Nat.reduceBEq, Nat.reduceEqDiff, Nat.reduceLeDiff, Nat.reduceLT, reduceCtorEq, Arc.e, Node.e, Pt.e, int1, bv6, f1, f3, f4, n3, bc7, hp5, fw11, sw11, bp5, ow11, hw12, fw12, sw12, ow12, bc8, hp6, fw13, sw13, bp6, ow13, hw14, fw14, sw14, ow14, bc9]
        unfold r14_ranges_L0R
        refine ⟨os7, v6, rfl, qos7, Av6, ?_⟩
        simp only [↓askB_true, ↓askB_false, beq_self_eq_true, wz, Nat.reduceAdd, Nat.reduceSub, Nat.reduceMul, Nat.reduceBEq, Nat.reduceEqDiff, Nat.reduceLeDiff, Nat.reduceLT, reduceCtorEq, Arc.e, Node.e, Pt.e, int1, bv6, f1, f3, f4, n3, bc7, hp5, fw11, sw11, bp5, ow11, hw12, fw12, sw12, ow12, bc8, hp6, fw13, sw13, bp6, ow13, hw14, fw14, sw14, ow14, bc9]
  · have bc7 : (decide (i4 < ((l4.length : Int)))) = false := decF c7
    rw [if_neg c7] at h
    cases h
    simp only [stepQ_exit, stepQ_ret, ↓askB_true, ↓askB_false, beq_self_eq_true, wz, Nat.reduceAdd, Nat.reduceSub, Nat.reduceMul, Nat.reduceBEq, Nat.reduceEqDiff, Nat.reduceLeDiff, Nat.reduceLT, reduceCtorEq, Arc.e, Node.e, Pt.e, int1, bv6, f1, f3, f4, n3, bc7]
    unfold r14_ranges_L0E
    refine ⟨rfl, ?_⟩
    refine ⟨os7, rfl, qos7, ?_⟩
    simp only [↓askB_true, ↓askB_false, beq_self_eq_true, wz, Nat.reduceAdd, Nat.reduceSub, Nat.reduceMul, Nat.reduceBEq, Nat.reduceEqDiff, Nat.reduceLeDiff, Nat.reduceLT, reduceCtorEq, Arc.e, Node.e, Pt.e, int1, bv6, f1, f3, f4, n3, bc7]

def r14_ranges_L1b (y3 : (List Pt)) : Int → Option ((Int) ⊕ ((Unit) ⊕ (Unit))) := fun i11 => (if i11 < ((y3.length : Int)) then ((at_ y3 i11).bind fun e6 => ((r14_Valid e6).bind fun y6 => (if y6 = true then some (.inl (w64 (i11 + 1))) else some (.inr (Sum.inl ()))))) else some (.inr (Sum.inr ())))
def r14_ranges_L1R (y3 : (List Pt)) : Int → Fr → TS → Prop := fun i11 f S => ∃ os, S = E0 os ∧ OsOk os ∧ f 5 = .r (.lst (List.map Pt.e y3) none) ∧ f 6 = I i11
def r14_ranges_L1E (y3 : (List Pt)) : ((Unit) ⊕ (Unit)) → TX → Fr → TS → Prop
  | (Sum.inl ()), tx, f, S => tx = TX.ret ∧ ∃ os, S = E0 os ∧ OsOk os ∧ f 2 = B false
  | (Sum.inr ()), tx, f, S => tx = TX.exit 2 ∧ ∃ os, S = E0 os ∧ OsOk os
noncomputable def r14_ranges_L1 (y3 : (List Pt)) (s : Int) : Option ((Unit) ⊕ (Unit)) := loopO (r14_ranges_L1b y3) s
theorem r14_ranges_L1_ok {y3 : (List Pt)} {s : Int} {r : (Unit) ⊕ (Unit)} {Q : TX → Fr → TS → Prop} (h : r14_ranges_L1 y3 s = some r) {f : Fr} {S : TS} (hR : r14_ranges_L1R y3 s f S) (hQ : ∀ tx f S, r14_ranges_L1E y3 r tx f S → Q tx f S) : wp prog [1] (callX prog cfg (famT r14_ranges_fams)) (.loop x57L1) Q f S := by
  refine wp_loopO x57L1.eq_1 ?_ h hR hQ
  clear hQ hR h
  intro s x f S h hR
  revert h hR; revert s; intro i11 h hR
  obtain ⟨os12, rfl, qos12, f5, f6⟩ := hR
  unfold r14_ranges_L1b at h
  try dsimp only at h
  by_cases c14 : i11 < ((y3.length : Int))
  · have bc14 : (decide (i11 < ((y3.length : Int)))) = true := decT c14
    rw [if_pos c14] at h
    obtain ⟨e6, he6, h⟩ := obind h
    have i13 := indexSl_at (enc := Pt.e) he6 (sz := 2) rfl
    obtain ⟨y6, hy6, h⟩ := obind h
    have g6 : ∀ os, callX prog cfg (famT r14_ranges_fams) 87 [.agg [I e6.x, I e6.y]] (E0 os) = some (B y6, E0 os, none) := fun os => callX_fam rfl (famLook_skip rfl <| famLook_skip rfl <| famLook_hit rfl (r14_Valid_val hy6))
    by_cases c15 : y6 = true
    · have bc15 : (y6) = true := id c15
      rw [if_pos c15] at h
      cases h
      simp only [stepQ_normal, ↓askB_true, ↓askB_false, beq_self_eq_true, wz, Nat.reduceAdd, Nat.reduceSub, Nat.reduceMul, Nat.reduceBEq, Nat.reduceEqDiff, Nat.reduceLeDiff, Nat.reduceLT, reduceCtorEq, Arc.e, Node.e, Pt.e, int1, f5, f6, bc14, i13, g6, bc15]
      unfold r14_ranges_L1R
      refine ⟨os12, rfl, qos12, ?_⟩
      simp only [↓askB_true, ↓askB_false, beq_self_eq_true, wz, Nat.reduceAdd, Nat.reduceSub, Nat.reduceMul, Nat.reduceBEq, Nat.reduceEqDiff, Nat.reduceLeDiff, Nat.reduceLT, reduceCtorEq, Arc.e, Node.e, Pt.e, int1, f5, f6, bc14, i13, g6, bc15]
    · have bc15 : (y6) = false := boolF c15
      rw [if_neg c15] at h
      cases h
      simp only [stepQ_exit, stepQ_ret, ↓askB_true, ↓askB_false, beq_self_eq_true, wz, Nat.reduceAdd, Nat.reduceSub, Nat.reduceMul, Nat.reduceBEq, Nat.reduceEqDiff, Nat.reduceLeDiff, Nat.reduceLT, reduceCtorEq, Arc.e, Node.e, Pt.e, int1, f5, f6, bc14, i13, g6, bc15]
      unfold r14_ranges_L1E
      refine ⟨rfl, ?_⟩
      refine ⟨os12, rfl, qos12, ?_⟩
      simp only [↓askB_true, ↓askB_false, beq_self_eq_true, wz, Nat.reduceAdd, Nat.reduceSub, Nat.reduceMul, Nat.reduceBEq, Nat.reduceEqDiff, Nat.reduceLeDiff, Nat.reduceLT, reduceCtorEq, Arc.e, Node.e, Pt.e, int1, f5, f6, bc14, i13, g6, bc15]
  · have bc14 : (decide (i11 < ((y3.length : Int)))) = false := decF c14
    rw [if_neg c14] at h
    cases h
    simp only [stepQ_exit, stepQ_ret, ↓askB_true, ↓askB_false, beq_self_eq_true, wz, Nat.reduceAdd, Nat.reduceSub, Nat.reduceMul, Nat.reduceBEq, Nat.reduceEqDiff, Nat.reduceLeDiff, Nat.reduceLT, reduceCtorEq, Arc.e, Node.e, Pt.e, int1, f5, f6, bc14]
    unfold r14_ranges_L1E
    refine ⟨rfl, ?_⟩
    exact ⟨os12, rfl, qos12⟩

noncomputable def r14_ranges (a0 : Plan) : Option (Bool) := ((r14_ids a0 false).bind fun y1 => ((r14_ids a0 true).bind fun y2 => ((appO 8 y1 y2).bind fun l1 => ((appO 8 l1 a0.faces).bind fun l2 => ((r14_ranges_L0 a0 (l2, 0)).bind (fun x1 => sumK x1 (fun _ => some false) (fun _ => ((r14_Points a0).bind fun y3 => ((r14_ranges_L1 y3 0).bind (fun x2 => sumK x2 (fun _ => some false) (fun _ => some true)))))))))))
theorem r14_ranges_ok {a0 : Plan} {r : Bool} (h : r14_ranges a0 = some r) : callL prog cfg (famT r14_ranges_fams) 57 [.agg [.r (.lst (List.map Node.e a0.nodes) none), .r (.lst (List.map Arc.e a0.arcs) none), .r (.lst (List.map int1 a0.faces) none)]] (E0 []) = some (B r, E0 [], none) := by
  refine callL_wpG cx57 (ax := [.agg [.r (.lst (List.map Node.e a0.nodes) none), .r (.lst (List.map Arc.e a0.arcs) none), .r (.lst (List.map int1 a0.faces) none)]]) rfl rfl ?_
  unfold r14_ranges at h
  try dsimp only at h
  obtain ⟨y1, hy1, h⟩ := obind h
  obtain ⟨v1, os1, g1, Av1, qos1, sbos1, kbos1, kaos1, kros1⟩ := callX_keep (P := prog) (cfg := cfg) (fams := r14_ranges_fams) (f := 56) (args := [.agg [.r (.lst (List.map Node.e a0.nodes) none), .r (.lst (List.map Arc.e a0.arcs) none), .r (.lst (List.map int1 a0.faces) none)], B false]) (os := []) (os1 := []) int1_ok rfl (kvalHit rfl (r14_ids_val hy1)) osok0
  have bv1 := Av1.rd.b
  obtain ⟨y2, hy2, h⟩ := obind h
  obtain ⟨v2, os2, g2, Av2, qos2, sbos2, kbos2, kaos2, kros2⟩ := callX_keep (P := prog) (cfg := cfg) (fams := r14_ranges_fams) (f := 56) (args := [.agg [.r (.lst (List.map Node.e a0.nodes) none), .r (.lst (List.map Arc.e a0.arcs) none), .r (.lst (List.map int1 a0.faces) none)], B true]) (os := os1) (os1 := os1) int1_ok rfl (kvalHit rfl (r14_ids_val hy2)) qos1
  have bv2 := Av2.rd.b
  have A1 := kbos2 _ _ _ Av1
  obtain ⟨l1, hl1, h⟩ := obind h
  obtain ⟨v3, w1, os3, hw1, sw1, fw1, kw1, Av3l, qos3, sbw1, kcw1, kbw1, kaw1, krw1⟩ := AccL.appT (os := os2) (v := v1) (x := v2) (xs := y1) (ys := y2) int1_ok hl1 A1.1.l qos2 Av2.rd.read
  have bv3 := Av3l.rd.b
  replace kw1 := zeroEk_out kw1
  have Av3 := kcw1 (Or.inr A1.1)
  have A2 := kbw1 _ _ _ A1.2.2 Av2
  obtain ⟨l2, hl2, h⟩ := obind h
  obtain ⟨v4, w2, os4, hw2, sw2, fw2, kw2, Av4l, qos4, sbw2, kcw2, kbw2, kaw2, krw2⟩ := AccL.appT (os := os3) (v := v3) (x := .r (.lst (List.map int1 a0.faces) none)) (xs := l1) (ys := a0.faces) int1_ok hl2 Av3.l qos3 rfl
  have bv4 := Av4l.rd.b
  replace kw2 := zeroEk_out kw2
  have Av4 := kcw2 (Or.inr Av3)
  have A3 := kbw2 _ _ _ A2.2.1 A2.1
  obtain ⟨x1, hx1, h⟩ := obind h
  simp only [↓askB_true, ↓askB_false, beq_self_eq_true, wz, Nat.reduceAdd, Nat.reduceSub, Nat.reduceMul, Nat.reduceBEq, Nat.reduceEqDiff, Nat.reduceLeDiff, Nat.reduceLT, reduceCtorEq, Arc.e, Node.e, Pt.e, int1, g1, bv1, g2, bv2, hw1, sw1, fw1, kw1, bv3, hw2, sw2, fw2, kw2, bv4, x57, x57B]
  refine r14_ranges_L0_ok hx1 ?_ ?_
  · unfold r14_ranges_L0R
    refine ⟨os4, v4, rfl, qos4, Av4, ?_⟩
    simp only [↓askB_true, ↓askB_false, beq_self_eq_true, wz, Nat.reduceAdd, Nat.reduceSub, Nat.reduceMul, Nat.reduceBEq, Nat.reduceEqDiff, Nat.reduceLeDiff, Nat.reduceLT, reduceCtorEq, Arc.e, Node.e, Pt.e, int1, g1, bv1, g2, bv2, hw1, sw1, fw1, kw1, bv3, hw2, sw2, fw2, kw2, bv4, x57, x57B]
  intro tx f S hE
  rcases x1 with _u | _u
  · try dsimp only [sumK] at h
    obtain ⟨rfl, os8, rfl, qos8, f2⟩ := hE
    cases h
    have hleak := leaks_0 os8 0
    simp only [retG, hleak, ↓askB_true, ↓askB_false, beq_self_eq_true, wz, Nat.reduceAdd, Nat.reduceSub, Nat.reduceMul, Nat.reduceBEq, Nat.reduceEqDiff, Nat.reduceLeDiff, Nat.reduceLT, reduceCtorEq, Arc.e, Node.e, Pt.e, int1, g1, bv1, g2, bv2, hw1, sw1, fw1, kw1, bv3, hw2, sw2, fw2, kw2, bv4, f2]
  · try dsimp only [sumK] at h
    obtain ⟨rfl, os9, rfl, qos9, f1⟩ := hE
    obtain ⟨y3, hy3, h⟩ := obind h
    have g3 : ∀ os, callX prog cfg (famT r14_ranges_fams) 86 [.agg [.r (.lst (List.map Node.e a0.nodes) none), .r (.lst (List.map Arc.e a0.arcs) none), .r (.lst (List.map int1 a0.faces) none)]] (E0 os) = some (.r (.lst (List.map Pt.e y3) none), E0 os, none) := fun os => callX_fam rfl (famLook_skip rfl <| famLook_hit rfl (r14_Points_val hy3))
    obtain ⟨x2, hx2, h⟩ := obind h
    simp only [↓askB_true, ↓askB_false, beq_self_eq_true, wz, Nat.reduceAdd, Nat.reduceSub, Nat.reduceMul, Nat.reduceBEq, Nat.reduceEqDiff, Nat.reduceLeDiff, Nat.reduceLT, reduceCtorEq, Arc.e, Node.e, Pt.e, int1, g1, bv1, g2, bv2, hw1, sw1, fw1, kw1, bv3, hw2, sw2, fw2, kw2, bv4, f1, g3]
    refine r14_ranges_L1_ok hx2 ?_ ?_
    · unfold r14_ranges_L1R
      refine ⟨os9, rfl, qos9, ?_⟩
      simp only [↓askB_true, ↓askB_false, beq_self_eq_true, wz, Nat.reduceAdd, Nat.reduceSub, Nat.reduceMul, Nat.reduceBEq, Nat.reduceEqDiff, Nat.reduceLeDiff, Nat.reduceLT, reduceCtorEq, Arc.e, Node.e, Pt.e, int1, g1, bv1, g2, bv2, hw1, sw1, fw1, kw1, bv3, hw2, sw2, fw2, kw2, bv4, f1, g3]
    intro tx f S hE
    rcases x2 with _u | _u
    · try dsimp only [sumK] at h
      obtain ⟨rfl, os13, rfl, qos13, f2⟩ := hE
      cases h
      have hleak := leaks_0 os13 0
      simp only [retG, hleak, ↓askB_true, ↓askB_false, beq_self_eq_true, wz, Nat.reduceAdd, Nat.reduceSub, Nat.reduceMul, Nat.reduceBEq, Nat.reduceEqDiff, Nat.reduceLeDiff, Nat.reduceLT, reduceCtorEq, Arc.e, Node.e, Pt.e, int1, g1, bv1, g2, bv2, hw1, sw1, fw1, kw1, bv3, hw2, sw2, fw2, kw2, bv4, g3, f2]
    · try dsimp only [sumK] at h
      obtain ⟨rfl, os14, rfl, qos14⟩ := hE
      cases h
      have hleak := leaks_0 os14 0
      simp only [retG, hleak, ↓askB_true, ↓askB_false, beq_self_eq_true, wz, Nat.reduceAdd, Nat.reduceSub, Nat.reduceMul, Nat.reduceBEq, Nat.reduceEqDiff, Nat.reduceLeDiff, Nat.reduceLT, reduceCtorEq, Arc.e, Node.e, Pt.e, int1, g1, bv1, g2, bv2, hw1, sw1, fw1, kw1, bv3, hw2, sw2, fw2, kw2, bv4, g3]

noncomputable def r14_ranges_fam : Fam := famC prog cfg (famT r14_ranges_fams) 57
theorem r14_ranges_val {a0 : Plan} {r : Bool} (h : r14_ranges a0 = some r) : r14_ranges_fam.val [.agg [.r (.lst (List.map Node.e a0.nodes) none), .r (.lst (List.map Arc.e a0.arcs) none), .r (.lst (List.map int1 a0.faces) none)]] = some (.flat (B r)) := famC_flat (r14_ranges_ok h) rfl rfl
def r14_ranges_At (fams : List Fam) : Prop := ∀  {a0 : Plan} {r : Bool} {xs_ : List TV} {os os1 : List TO}, r14_ranges a0 = some r → argsT false (E0 os) xs_ = some ([.agg [.r (.lst (List.map Node.e a0.nodes) none), .r (.lst (List.map Arc.e a0.arcs) none), .r (.lst (List.map int1 a0.faces) none)]], E0 os1) → callX prog cfg (famT fams) 57 xs_ (E0 os) = some (B r, E0 os1, none)
theorem r14_ranges_goods : ∀ x, x ∈ r14_ranges_fams → x.Good prog := (goodsC r14_ids_good (goodsC r14_Points_good (goodsC r14_Valid_good goods0)))
theorem r14_ranges_good : r14_ranges_fam.Good prog := famC_good sound r14_ranges_goods
/- 58: mapsheets/mapsheetsref14.twice -/
noncomputable def r14_twice_fams : List Fam := []
def r14_twice_L0b (a0 : Plan) (i8 : Int) : Int → Option ((Int) ⊕ ((Unit) ⊕ (Unit))) := fun i18 => (if i18 < i8 then ((at_ a0.nodes i8).bind fun e13 => ((at_ a0.nodes i18).bind fun e14 => (if e13.pt = e14.pt then some (.inr (Sum.inl ())) else some (.inl (w64 (i18 + 1)))))) else some (.inr (Sum.inr ())))
def r14_twice_L0R (a0 : Plan) (i8 : Int) : Int → Fr → TS → Prop := fun i18 f S => S = E0 [] ∧ f 1 = .lv [.r (.lst (List.map Node.e a0.nodes) none), .r (.lst (List.map Arc.e a0.arcs) none), .r (.lst (List.map int1 a0.faces) none)] ∧ f 3 = I i8 ∧ f 4 = I i18
def r14_twice_L0E (a0 : Plan) (i8 : Int) : ((Unit) ⊕ (Unit)) → TX → Fr → TS → Prop
  | (Sum.inl ()), tx, f, S => tx = TX.ret ∧ S = E0 [] ∧ f 2 = B true
  | (Sum.inr ()), tx, f, S => tx = TX.exit 2 ∧ S = E0 [] ∧ f 1 = .lv [.r (.lst (List.map Node.e a0.nodes) none), .r (.lst (List.map Arc.e a0.arcs) none), .r (.lst (List.map int1 a0.faces) none)] ∧ f 3 = I i8
noncomputable def r14_twice_L0 (a0 : Plan) (i8 : Int) (s : Int) : Option ((Unit) ⊕ (Unit)) := loopO (r14_twice_L0b a0 i8) s
theorem r14_twice_L0_ok {a0 : Plan} {i8 : Int} {s : Int} {r : (Unit) ⊕ (Unit)} {Q : TX → Fr → TS → Prop} (h : r14_twice_L0 a0 i8 s = some r) {f : Fr} {S : TS} (hR : r14_twice_L0R a0 i8 s f S) (hQ : ∀ tx f S, r14_twice_L0E a0 i8 r tx f S → Q tx f S) : wp prog [1] (callX prog cfg (famT r14_twice_fams)) (.loop x58L0) Q f S := by
  refine wp_loopO x58L0.eq_1 ?_ h hR hQ
  clear hQ hR h
  intro s x f S h hR
  revert h hR; revert s; intro i18 h hR
  obtain ⟨rfl, f1, f3, f4⟩ := hR
  unfold r14_twice_L0b at h
  try dsimp only at h
  by_cases c16 : i18 < i8
  · have bc16 : (decide (i18 < i8)) = true := decT c16
    rw [if_pos c16] at h
    obtain ⟨e13, he13, h⟩ := obind h
    have i21 := indexSl_at (enc := Node.e) he13 (sz := 3) rfl
    obtain ⟨e14, he14, h⟩ := obind h
    have i22 := indexSl_at (enc := Node.e) he14 (sz := 3) rfl
    have q7 := Pt.clV e13.pt e14.pt
    simp only [Pt.v, Pt.e, List.map_cons, List.map_nil] at q7
    by_cases c17 : e13.pt = e14.pt
    · have bc17 : (Pt.eqb e13.pt e14.pt) = true := Pt.eqbT c17
      rw [if_pos c17] at h
      cases h
      simp only [stepQ_exit, stepQ_ret, r14_twice_L0E, ↓askB_true, ↓askB_false, beq_self_eq_true, wz, Nat.reduceAdd, Nat.reduceSub, Nat.reduceMul, Nat.reduceBEq, Nat.reduceEqDiff, Nat.reduceLeDiff, Nat.reduceLT, reduceCtorEq, Arc.e, Node.e, Pt.e, int1, f1, f3, f4, bc16, i21, i22, q7, bc17]
    · have bc17 : (Pt.eqb e13.pt e14.pt) = false := Pt.eqbF c17
      rw [if_neg c17] at h
      cases h
      simp only [stepQ_normal, r14_twice_L0R, ↓askB_true, ↓askB_false, beq_self_eq_true, wz, Nat.reduceAdd, Nat.reduceSub, Nat.reduceMul, Nat.reduceBEq, Nat.reduceEqDiff, Nat.reduceLeDiff, Nat.reduceLT, reduceCtorEq, Arc.e, Node.e, Pt.e, int1, f1, f3, f4, bc16, i21, i22, q7, bc17]
  · have bc16 : (decide (i18 < i8)) = false := decF c16
    rw [if_neg c16] at h
    cases h
    simp only [stepQ_exit, stepQ_ret, r14_twice_L0E, ↓askB_true, ↓askB_false, beq_self_eq_true, wz, Nat.reduceAdd, Nat.reduceSub, Nat.reduceMul, Nat.reduceBEq, Nat.reduceEqDiff, Nat.reduceLeDiff, Nat.reduceLT, reduceCtorEq, Arc.e, Node.e, Pt.e, int1, f1, f3, f4, bc16]

def r14_twice_L1b (a0 : Plan) : Int → Option ((Int) ⊕ ((Unit) ⊕ (Unit))) := fun i8 => (if i8 < ((a0.nodes.length : Int)) then ((r14_twice_L0 a0 i8 0).bind (fun x3 => sumK x3 (fun _ => some (.inr (Sum.inl ()))) (fun _ => some (.inl (w64 (i8 + 1)))))) else some (.inr (Sum.inr ())))
def r14_twice_L1R (a0 : Plan) : Int → Fr → TS → Prop := fun i8 f S => S = E0 [] ∧ f 1 = .lv [.r (.lst (List.map Node.e a0.nodes) none), .r (.lst (List.map Arc.e a0.arcs) none), .r (.lst (List.map int1 a0.faces) none)] ∧ f 3 = I i8
def r14_twice_L1E (a0 : Plan) : ((Unit) ⊕ (Unit)) → TX → Fr → TS → Prop
  | (Sum.inl ()), tx, f, S => tx = TX.ret ∧ S = E0 [] ∧ f 2 = B true
  | (Sum.inr ()), tx, f, S => tx = TX.exit 0 ∧ S = E0 []
noncomputable def r14_twice_L1 (a0 : Plan) (s : Int) : Option ((Unit) ⊕ (Unit)) := loopO (r14_twice_L1b a0) s
theorem r14_twice_L1_ok {a0 : Plan} {s : Int} {r : (Unit) ⊕ (Unit)} {Q : TX → Fr → TS → Prop} (h : r14_twice_L1 a0 s = some r) {f : Fr} {S : TS} (hR : r14_twice_L1R a0 s f S) (hQ : ∀ tx f S, r14_twice_L1E a0 r tx f S → Q tx f S) : wp prog [1] (callX prog cfg (famT r14_twice_fams)) (.loop x58L1) Q f S := by
  refine wp_loopO x58L1.eq_1 ?_ h hR hQ
  clear hQ hR h
  intro s x f S h hR
  revert h hR; revert s; intro i8 h hR
  obtain ⟨rfl, f1, f3⟩ := hR
  unfold r14_twice_L1b at h
  try dsimp only at h
  by_cases c11 : i8 < ((a0.nodes.length : Int))
  · have bc11 : (decide (i8 < ((a0.nodes.length : Int)))) = true := decT c11
    rw [if_pos c11] at h
    obtain ⟨x3, hx3, h⟩ := obind h
    simp only [↓askB_true, ↓askB_false, beq_self_eq_true, wz, Nat.reduceAdd, Nat.reduceSub, Nat.reduceMul, Nat.reduceBEq, Nat.reduceEqDiff, Nat.reduceLeDiff, Nat.reduceLT, reduceCtorEq, Arc.e, Node.e, Pt.e, int1, f1, f3, bc11]
    refine r14_twice_L0_ok hx3 ?_ ?_
    · simp only [r14_twice_L0R, ↓askB_true, ↓askB_false, beq_self_eq_true, wz, Nat.reduceAdd, Nat.reduceSub, Nat.reduceMul, Nat.reduceBEq, Nat.reduceEqDiff, Nat.reduceLeDiff, Nat.reduceLT, reduceCtorEq, Arc.e, Node.e, Pt.e, int1, f1, f3, bc11]
    intro tx f S hE
    rcases x3 with _u | _u
    · try dsimp only [sumK] at h
      obtain ⟨rfl, rfl, f2⟩ := hE
      cases h
      simp only [stepQ_exit, stepQ_ret, r14_twice_L1E, ↓askB_true, ↓askB_false, beq_self_eq_true, wz, Nat.reduceAdd, Nat.reduceSub, Nat.reduceMul, Nat.reduceBEq, Nat.reduceEqDiff, Nat.reduceLeDiff, Nat.reduceLT, reduceCtorEq, Arc.e, Node.e, Pt.e, int1, bc11, f2]
    · try dsimp only [sumK] at h
      obtain ⟨rfl, rfl, f1, f3⟩ := hE
      cases h
      simp only [stepQ_normal, r14_twice_L1R, ↓askB_true, ↓askB_false, beq_self_eq_true, wz, Nat.reduceAdd, Nat.reduceSub, Nat.reduceMul, Nat.reduceBEq, Nat.reduceEqDiff, Nat.reduceLeDiff, Nat.reduceLT, reduceCtorEq, Arc.e, Node.e, Pt.e, int1, bc11, f1, f3]
  · have bc11 : (decide (i8 < ((a0.nodes.length : Int)))) = false := decF c11
    rw [if_neg c11] at h
    cases h
    simp only [stepQ_exit, stepQ_ret, r14_twice_L1E, ↓askB_true, ↓askB_false, beq_self_eq_true, wz, Nat.reduceAdd, Nat.reduceSub, Nat.reduceMul, Nat.reduceBEq, Nat.reduceEqDiff, Nat.reduceLeDiff, Nat.reduceLT, reduceCtorEq, Arc.e, Node.e, Pt.e, int1, f1, f3, bc11]

noncomputable def r14_twice (a0 : Plan) : Option (Bool) := ((r14_twice_L1 a0 0).bind (fun x4 => sumK x4 (fun _ => some true) (fun _ => some false)))
theorem r14_twice_ok {a0 : Plan} {r : Bool} (h : r14_twice a0 = some r) : callL prog cfg (famT r14_twice_fams) 58 [.agg [.r (.lst (List.map Node.e a0.nodes) none), .r (.lst (List.map Arc.e a0.arcs) none), .r (.lst (List.map int1 a0.faces) none)]] (E0 []) = some (B r, E0 [], none) := by
  refine callL_wpG cx58 (ax := [.agg [.r (.lst (List.map Node.e a0.nodes) none), .r (.lst (List.map Arc.e a0.arcs) none), .r (.lst (List.map int1 a0.faces) none)]]) rfl rfl ?_
  unfold r14_twice at h
  try dsimp only at h
  obtain ⟨x4, hx4, h⟩ := obind h
  simp only [↓askB_true, ↓askB_false, beq_self_eq_true, wz, Nat.reduceAdd, Nat.reduceSub, Nat.reduceMul, Nat.reduceBEq, Nat.reduceEqDiff, Nat.reduceLeDiff, Nat.reduceLT, reduceCtorEq, Arc.e, Node.e, Pt.e, int1, x58, x58B]
  refine r14_twice_L1_ok hx4 ?_ ?_
  · simp only [r14_twice_L1R, ↓askB_true, ↓askB_false, beq_self_eq_true, wz, Nat.reduceAdd, Nat.reduceSub, Nat.reduceMul, Nat.reduceBEq, Nat.reduceEqDiff, Nat.reduceLeDiff, Nat.reduceLT, reduceCtorEq, Arc.e, Node.e, Pt.e, int1, x58, x58B]
  intro tx f S hE
  rcases x4 with _u | _u
  · try dsimp only [sumK] at h
    obtain ⟨rfl, rfl, f2⟩ := hE
    cases h
    simp only [retG, ↓askB_true, ↓askB_false, beq_self_eq_true, wz, Nat.reduceAdd, Nat.reduceSub, Nat.reduceMul, Nat.reduceBEq, Nat.reduceEqDiff, Nat.reduceLeDiff, Nat.reduceLT, reduceCtorEq, Arc.e, Node.e, Pt.e, int1, f2]
  · try dsimp only [sumK] at h
    obtain ⟨rfl, rfl⟩ := hE
    cases h
    simp only [retG, ↓askB_true, ↓askB_false, beq_self_eq_true, wz, Nat.reduceAdd, Nat.reduceSub, Nat.reduceMul, Nat.reduceBEq, Nat.reduceEqDiff, Nat.reduceLeDiff, Nat.reduceLT, reduceCtorEq, Arc.e, Node.e, Pt.e, int1]

noncomputable def r14_twice_fam : Fam := famC prog cfg (famT r14_twice_fams) 58
theorem r14_twice_val {a0 : Plan} {r : Bool} (h : r14_twice a0 = some r) : r14_twice_fam.val [.agg [.r (.lst (List.map Node.e a0.nodes) none), .r (.lst (List.map Arc.e a0.arcs) none), .r (.lst (List.map int1 a0.faces) none)]] = some (.flat (B r)) := famC_flat (r14_twice_ok h) rfl rfl
def r14_twice_At (fams : List Fam) : Prop := ∀  {a0 : Plan} {r : Bool} {xs_ : List TV} {os os1 : List TO}, r14_twice a0 = some r → argsT false (E0 os) xs_ = some ([.agg [.r (.lst (List.map Node.e a0.nodes) none), .r (.lst (List.map Arc.e a0.arcs) none), .r (.lst (List.map int1 a0.faces) none)]], E0 os1) → callX prog cfg (famT fams) 58 xs_ (E0 os) = some (B r, E0 os1, none)
theorem r14_twice_goods : ∀ x, x ∈ r14_twice_fams → x.Good prog := goods0
theorem r14_twice_good : r14_twice_fam.Good prog := famC_good sound r14_twice_goods
/- 36: mapsheets/mapsheetsref14.Node -/
noncomputable def r14_Node_fams : List Fam := []
def r14_Node_L0b (a0 : Plan) (a1 : Int) : Int × Int × Int × Int → Option ((Int × Int × Int × Int) ⊕ ((Int × Int × Int) ⊕ (Int × Int × Int))) := fun (i6, i7, i8, i9) => (if i9 < ((a0.nodes.length : Int)) then ((at_ a0.nodes i9).bind fun e3 => (if e3.id = a1 then some (.inr (Sum.inl (e3.id, e3.pt.x, e3.pt.y))) else some (.inl (i6, i7, i8, w64 (i9 + 1))))) else some (.inr (Sum.inr (i6, i7, i8))))
def r14_Node_L0R (a0 : Plan) (a1 : Int) : Int × Int × Int × Int → Fr → TS → Prop := fun (i6, i7, i8, i9) f S => S = E0 [] ∧ f 1 = I a1 ∧ f 2 = .lv [.r (.lst (List.map Node.e a0.nodes) none), .r (.lst (List.map Arc.e a0.arcs) none), .r (.lst (List.map int1 a0.faces) none)] ∧ f 4 = .lv [I i6, I i7, I i8] ∧ f 6 = I i9
def r14_Node_L0E (a0 : Plan) (a1 : Int) : ((Int × Int × Int) ⊕ (Int × Int × Int)) → TX → Fr → TS → Prop
  | (Sum.inl (i11, i12, i13)), tx, f, S => tx = TX.ret ∧ S = E0 [] ∧ f 4 = .lv [I i11, I i12, I i13] ∧ f 5 = B true
  | (Sum.inr (i14, i15, i16)), tx, f, S => tx = TX.exit 0 ∧ S = E0 [] ∧ f 4 = .lv [I i14, I i15, I i16]
noncomputable def r14_Node_L0 (a0 : Plan) (a1 : Int) (s : Int × Int × Int × Int) : Option ((Int × Int × Int) ⊕ (Int × Int × Int)) := loopO (r14_Node_L0b a0 a1) s
theorem r14_Node_L0_ok {a0 : Plan} {a1 : Int} {s : Int × Int × Int × Int} {r : (Int × Int × Int) ⊕ (Int × Int × Int)} {Q : TX → Fr → TS → Prop} (h : r14_Node_L0 a0 a1 s = some r) {f : Fr} {S : TS} (hR : r14_Node_L0R a0 a1 s f S) (hQ : ∀ tx f S, r14_Node_L0E a0 a1 r tx f S → Q tx f S) : wp prog [2, 4] (callX prog cfg (famT r14_Node_fams)) (.loop x36L0) Q f S := by
  refine wp_loopO x36L0.eq_1 ?_ h hR hQ
  clear hQ hR h
  intro s x f S h hR
  obtain ⟨i6, i7, i8, i9⟩ := s
  obtain ⟨rfl, f1, f2, f4, f6⟩ := hR
  unfold r14_Node_L0b at h
  try dsimp only at h
  by_cases c5 : i9 < ((a0.nodes.length : Int))
  · have bc5 : (decide (i9 < ((a0.nodes.length : Int)))) = true := decT c5
    rw [if_pos c5] at h
    obtain ⟨e3, he3, h⟩ := obind h
    have i17 := indexSl_at (enc := Node.e) he3 (sz := 3) rfl
    by_cases c6 : e3.id = a1
    · have bc6 : (e3.id == a1) = true := beqT c6
      rw [if_pos c6] at h
      cases h
      simp only [stepQ_exit, stepQ_ret, r14_Node_L0E, ↓askB_true, ↓askB_false, beq_self_eq_true, wz, Nat.reduceAdd, Nat.reduceSub, Nat.reduceMul, Nat.reduceBEq, Nat.reduceEqDiff, Nat.reduceLeDiff, Nat.reduceLT, reduceCtorEq, Arc.e, Node.e, Pt.e, int1, f1, f2, f4, f6, bc5, i17, bc6]
    · have bc6 : (e3.id == a1) = false := beqF c6
      rw [if_neg c6] at h
      cases h
      simp only [stepQ_normal, r14_Node_L0R, ↓askB_true, ↓askB_false, beq_self_eq_true, wz, Nat.reduceAdd, Nat.reduceSub, Nat.reduceMul, Nat.reduceBEq, Nat.reduceEqDiff, Nat.reduceLeDiff, Nat.reduceLT, reduceCtorEq, Arc.e, Node.e, Pt.e, int1, f1, f2, f4, f6, bc5, i17, bc6]
  · have bc5 : (decide (i9 < ((a0.nodes.length : Int)))) = false := decF c5
    rw [if_neg c5] at h
    cases h
    simp only [stepQ_exit, stepQ_ret, r14_Node_L0E, ↓askB_true, ↓askB_false, beq_self_eq_true, wz, Nat.reduceAdd, Nat.reduceSub, Nat.reduceMul, Nat.reduceBEq, Nat.reduceEqDiff, Nat.reduceLeDiff, Nat.reduceLT, reduceCtorEq, Arc.e, Node.e, Pt.e, int1, f1, f2, f4, f6, bc5]

noncomputable def r14_Node (a0 : Plan) (a1 : Int) : Option (Node × Bool) := ((r14_Node_L0 a0 a1 (0, 0, 0, 0)).bind (fun x1 => sumK x1 (fun (i18, i19, i20) => some ((Node.mk i18 ((Pt.mk i19 i20))), true)) (fun (i21, i22, i23) => some ((Node.mk 0 ((Pt.mk 0 0))), false))))
theorem r14_Node_ok {a0 : Plan} {a1 : Int} {r : Node × Bool} (h : r14_Node a0 a1 = some r) : callL prog cfg (famT r14_Node_fams) 36 [.agg [.r (.lst (List.map Node.e a0.nodes) none), .r (.lst (List.map Arc.e a0.arcs) none), .r (.lst (List.map int1 a0.faces) none)], I a1] (E0 []) = some (.tup [.agg [I r.1.id, I r.1.pt.x, I r.1.pt.y], B r.2], E0 [], none) := by
  refine callL_wpG cx36 (ax := [.agg [.r (.lst (List.map Node.e a0.nodes) none), .r (.lst (List.map Arc.e a0.arcs) none), .r (.lst (List.map int1 a0.faces) none)], I a1]) rfl rfl ?_
  unfold r14_Node at h
  try dsimp only at h
  obtain ⟨x1, hx1, h⟩ := obind h
  simp only [↓askB_true, ↓askB_false, beq_self_eq_true, wz, Nat.reduceAdd, Nat.reduceSub, Nat.reduceMul, Nat.reduceBEq, Nat.reduceEqDiff, Nat.reduceLeDiff, Nat.reduceLT, reduceCtorEq, Arc.e, Node.e, Pt.e, int1, x36, x36B]
  refine r14_Node_L0_ok hx1 ?_ ?_
  · simp only [r14_Node_L0R, ↓askB_true, ↓askB_false, beq_self_eq_true, wz, Nat.reduceAdd, Nat.reduceSub, Nat.reduceMul, Nat.reduceBEq, Nat.reduceEqDiff, Nat.reduceLeDiff, Nat.reduceLT, reduceCtorEq, Arc.e, Node.e, Pt.e, int1, x36, x36B]
  intro tx f S hE
  rcases x1 with ⟨i18, i19, i20⟩ | ⟨i21, i22, i23⟩
  · try dsimp only [sumK] at h
    obtain ⟨rfl, rfl, f4, f5⟩ := hE
    cases h
    simp only [retG, ↓askB_true, ↓askB_false, beq_self_eq_true, wz, Nat.reduceAdd, Nat.reduceSub, Nat.reduceMul, Nat.reduceBEq, Nat.reduceEqDiff, Nat.reduceLeDiff, Nat.reduceLT, reduceCtorEq, Arc.e, Node.e, Pt.e, int1, f4, f5]
  · try dsimp only [sumK] at h
    obtain ⟨rfl, rfl, f4⟩ := hE
    cases h
    simp only [retG, ↓askB_true, ↓askB_false, beq_self_eq_true, wz, Nat.reduceAdd, Nat.reduceSub, Nat.reduceMul, Nat.reduceBEq, Nat.reduceEqDiff, Nat.reduceLeDiff, Nat.reduceLT, reduceCtorEq, Arc.e, Node.e, Pt.e, int1, f4]

noncomputable def r14_Node_fam : Fam := famC prog cfg (famT r14_Node_fams) 36
theorem r14_Node_val {a0 : Plan} {a1 : Int} {r : Node × Bool} (h : r14_Node a0 a1 = some r) : r14_Node_fam.val [.agg [.r (.lst (List.map Node.e a0.nodes) none), .r (.lst (List.map Arc.e a0.arcs) none), .r (.lst (List.map int1 a0.faces) none)], I a1] = some (.flat (.tup [.agg [I r.1.id, I r.1.pt.x, I r.1.pt.y], B r.2])) := famC_flat (r14_Node_ok h) rfl rfl
def r14_Node_At (fams : List Fam) : Prop := ∀  {a0 : Plan} {a1 : Int} {r : Node × Bool} {xs_ : List TV} {os os1 : List TO}, r14_Node a0 a1 = some r → argsT false (E0 os) xs_ = some ([.agg [.r (.lst (List.map Node.e a0.nodes) none), .r (.lst (List.map Arc.e a0.arcs) none), .r (.lst (List.map int1 a0.faces) none)], I a1], E0 os1) → callX prog cfg (famT fams) 36 xs_ (E0 os) = some (.tup [.agg [I r.1.id, I r.1.pt.x, I r.1.pt.y], B r.2], E0 os1, none)
theorem r14_Node_goods : ∀ x, x ∈ r14_Node_fams → x.Good prog := goods0
theorem r14_Node_good : r14_Node_fam.Good prog := famC_good sound r14_Node_goods
/- 59: mapsheets/mapsheetsref14.line -/
noncomputable def r14_line_fams : List Fam := [r14_Node_fam]
noncomputable def r14_line (a0 : Plan) (a1 : Arc) : Option ((List Pt) × Bool) := ((r14_Node a0 a1.frm).bind fun y1 => ((r14_Node a0 a1.to).bind fun y2 => ((appO 16 (([y1.1.pt] : List Pt)) a1.via).bind fun l1 => ((appO 16 l1 (([y2.1.pt] : List Pt))).bind fun l2 => (if y1.2 = true then some (l2, y2.2) else some (l2, false))))))
theorem r14_line_ok {a0 : Plan} {a1 : Arc} {r : (List Pt) × Bool} (h : r14_line a0 a1 = some r) : callL prog cfg (famT r14_line_fams) 59 [.agg [.r (.lst (List.map Node.e a0.nodes) none), .r (.lst (List.map Arc.e a0.arcs) none), .r (.lst (List.map int1 a0.faces) none)], .agg [I a1.id, I a1.frm, I a1.to, .r (.lst (List.map Pt.e a1.via) none), I a1.left, I a1.right]] (E0 []) = some (.tup [.r (.lst (List.map Pt.e r.1) none), B r.2], E0 [], none) := by
  refine callL_wpG cx59 (ax := [.agg [.r (.lst (List.map Node.e a0.nodes) none), .r (.lst (List.map Arc.e a0.arcs) none), .r (.lst (List.map int1 a0.faces) none)], .agg [I a1.id, I a1.frm, I a1.to, .r (.lst (List.map Pt.e a1.via) none), I a1.left, I a1.right]]) rfl rfl ?_
  unfold r14_line at h
  try dsimp only at h
  obtain ⟨y1, hy1, h⟩ := obind h
  have g1 : ∀ os, callX prog cfg (famT r14_line_fams) 36 [.agg [.r (.lst (List.map Node.e a0.nodes) none), .r (.lst (List.map Arc.e a0.arcs) none), .r (.lst (List.map int1 a0.faces) none)], I a1.frm] (E0 os) = some (.tup [.agg [I y1.1.id, I y1.1.pt.x, I y1.1.pt.y], B y1.2], E0 os, none) := fun os => callX_fam rfl (famLook_hit rfl (r14_Node_val hy1))
  obtain ⟨y2, hy2, h⟩ := obind h
  have g2 : ∀ os, callX prog cfg (famT r14_line_fams) 36 [.agg [.r (.lst (List.map Node.e a0.nodes) none), .r (.lst (List.map Arc.e a0.arcs) none), .r (.lst (List.map int1 a0.faces) none)], I a1.to] (E0 os) = some (.tup [.agg [I y2.1.id, I y2.1.pt.x, I y2.1.pt.y], B y2.2], E0 os, none) := fun os => callX_fam rfl (famLook_hit rfl (r14_Node_val hy2))
  obtain ⟨l1, hl1, h⟩ := obind h
  obtain ⟨v1, w1, os1, hw1, sw1, fw1, kw1, Av1l, qos1, sbw1, kcw1, kbw1, kaw1, krw1⟩ := AccL.appT (os := []) (v := (.r (.lst [[cI y1.1.pt.x, cI y1.1.pt.y]] (some 1)))) (x := .r (.lst (List.map Pt.e a1.via) none)) (xs := ([y1.1.pt] : List Pt)) (ys := a1.via) Pt.eok hl1 (AccL.lit _ rfl) osok0 rfl
  have bv1 := Av1l.rd.b
  replace kw1 := zeroEk_out kw1
  obtain ⟨l2, hl2, h⟩ := obind h
  obtain ⟨v2, w2, os2, hw2, sw2, fw2, kw2, Av2l, qos2, sbw2, kcw2, kbw2, kaw2, krw2⟩ := AccL.appT (os := os1) (v := v1) (x := .r (.lst [[cI y2.1.pt.x, cI y2.1.pt.y]] (some 1))) (xs := l1) (ys := ([y2.1.pt] : List Pt)) Pt.eok hl2 Av1l qos1 rfl
  have bv2 := Av2l.rd.b
  replace kw2 := zeroEk_out kw2
  have Av2 := kcw2 (Or.inl (by simp))
  by_cases c1 : y1.2 = true
  · have bc1 : (y1.2) = true := id c1
    rw [if_pos c1] at h
    cases h
    simp only [↓askB_true, ↓askB_false, beq_self_eq_true, wz, Nat.reduceAdd, Nat.reduceSub, Nat.reduceMul, Nat.reduceBEq, Nat.reduceEqDiff, Nat.reduceLeDiff, Nat.reduceLT, reduceCtorEq, Arc.e, Node.e, Pt.e, int1, g1, g2, hw1, sw1, fw1, kw1, bv1, hw2, sw2, fw2, kw2, bv2, bc1, x59, x59B]
    obtain ⟨os3, zos3, kzos3, qos3⟩ := Av2.rd.frz qos2
    have A1 := kzos3.own _ _ _ Av2
    refine retG_of (vs := [v2, B y2.2]) (resF_cons (resF1_of (by simp only [↓askB_true, ↓askB_false, beq_self_eq_true, wz, Nat.reduceAdd, Nat.reduceSub, Nat.reduceMul, Nat.reduceBEq, Nat.reduceEqDiff, Nat.reduceLeDiff, Nat.reduceLT, reduceCtorEq, Arc.e, Node.e, Pt.e, int1, g1, g2, hw1, sw1, fw1, kw1, bv1, hw2, sw2, fw2, kw2, bv2, bc1]) bv2.2.1) (resF_cons (by simp only [↓askB_true, ↓askB_false, beq_self_eq_true, wz, Nat.reduceAdd, Nat.reduceSub, Nat.reduceMul, Nat.reduceBEq, Nat.reduceEqDiff, Nat.reduceLeDiff, Nat.reduceLT, reduceCtorEq, Arc.e, Node.e, Pt.e, int1, g1, g2, hw1, sw1, fw1, kw1, bv1, hw2, sw2, fw2, kw2, bv2, bc1]) resF_nil)) (freezeVs_cons (freezeV_rd Av2.rd zos3) (freezeVs_cons rfl rfl))
  · have bc1 : (y1.2) = false := boolF c1
    rw [if_neg c1] at h
    cases h
    simp only [↓askB_true, ↓askB_false, beq_self_eq_true, wz, Nat.reduceAdd, Nat.reduceSub, Nat.reduceMul, Nat.reduceBEq, Nat.reduceEqDiff, Nat.reduceLeDiff, Nat.reduceLT, reduceCtorEq, Arc.e, Node.e, Pt.e, int1, g1, g2, hw1, sw1, fw1, kw1, bv1, hw2, sw2, fw2, kw2, bv2, bc1, x59, x59B]
    obtain ⟨os4, zos4, kzos4, qos4⟩ := Av2.rd.frz qos2
    have A2 := kzos4.own _ _ _ Av2
    refine retG_of (vs := [v2, B false]) (resF_cons (resF1_of (by simp only [↓askB_true, ↓askB_false, beq_self_eq_true, wz, Nat.reduceAdd, Nat.reduceSub, Nat.reduceMul, Nat.reduceBEq, Nat.reduceEqDiff, Nat.reduceLeDiff, Nat.reduceLT, reduceCtorEq, Arc.e, Node.e, Pt.e, int1, g1, g2, hw1, sw1, fw1, kw1, bv1, hw2, sw2, fw2, kw2, bv2, bc1]) bv2.2.1) (resF_cons (by simp only [↓askB_true, ↓askB_false, beq_self_eq_true, wz, Nat.reduceAdd, Nat.reduceSub, Nat.reduceMul, Nat.reduceBEq, Nat.reduceEqDiff, Nat.reduceLeDiff, Nat.reduceLT, reduceCtorEq, Arc.e, Node.e, Pt.e, int1, g1, g2, hw1, sw1, fw1, kw1, bv1, hw2, sw2, fw2, kw2, bv2, bc1]) resF_nil)) (freezeVs_cons (freezeV_rd Av2.rd zos4) (freezeVs_cons rfl rfl))

noncomputable def r14_line_fam : Fam := famC prog cfg (famT r14_line_fams) 59
theorem r14_line_val {a0 : Plan} {a1 : Arc} {r : (List Pt) × Bool} (h : r14_line a0 a1 = some r) : r14_line_fam.val [.agg [.r (.lst (List.map Node.e a0.nodes) none), .r (.lst (List.map Arc.e a0.arcs) none), .r (.lst (List.map int1 a0.faces) none)], .agg [I a1.id, I a1.frm, I a1.to, .r (.lst (List.map Pt.e a1.via) none), I a1.left, I a1.right]] = some (.flat (.tup [.r (.lst (List.map Pt.e r.1) none), B r.2])) := famC_flat (r14_line_ok h) rfl rfl
def r14_line_At (fams : List Fam) : Prop := ∀  {a0 : Plan} {a1 : Arc} {r : (List Pt) × Bool} {xs_ : List TV} {os os1 : List TO}, r14_line a0 a1 = some r → argsT false (E0 os) xs_ = some ([.agg [.r (.lst (List.map Node.e a0.nodes) none), .r (.lst (List.map Arc.e a0.arcs) none), .r (.lst (List.map int1 a0.faces) none)], .agg [I a1.id, I a1.frm, I a1.to, .r (.lst (List.map Pt.e a1.via) none), I a1.left, I a1.right]], E0 os1) → callX prog cfg (famT fams) 59 xs_ (E0 os) = some (.tup [.r (.lst (List.map Pt.e r.1) none), B r.2], E0 os1, none)
theorem r14_line_goods : ∀ x, x ∈ r14_line_fams → x.Good prog := (goodsC r14_Node_good goods0)
theorem r14_line_good : r14_line_fam.Good prog := famC_good sound r14_line_goods
/- 60: mapsheets/mapsheetsref14.Face -/
noncomputable def r14_Face_fams : List Fam := []
def r14_Face_L0b (a0 : Plan) (a1 : Int) : Int → Option ((Int) ⊕ ((Unit) ⊕ (Unit))) := fun i3 => (if i3 < ((a0.faces.length : Int)) then ((at_ a0.faces i3).bind fun e3 => (if e3 = a1 then some (.inr (Sum.inl ())) else some (.inl (w64 (i3 + 1))))) else some (.inr (Sum.inr ())))
def r14_Face_L0R (a0 : Plan) (a1 : Int) : Int → Fr → TS → Prop := fun i3 f S => S = E0 [] ∧ f 1 = I a1 ∧ f 2 = .lv [.r (.lst (List.map Node.e a0.nodes) none), .r (.lst (List.map Arc.e a0.arcs) none), .r (.lst (List.map int1 a0.faces) none)] ∧ f 5 = I i3
def r14_Face_L0E (a0 : Plan) (a1 : Int) : ((Unit) ⊕ (Unit)) → TX → Fr → TS → Prop
  | (Sum.inl ()), tx, f, S => tx = TX.ret ∧ S = E0 [] ∧ f 4 = B true
  | (Sum.inr ()), tx, f, S => tx = TX.exit 0 ∧ S = E0 [] ∧ f 1 = I a1
noncomputable def r14_Face_L0 (a0 : Plan) (a1 : Int) (s : Int) : Option ((Unit) ⊕ (Unit)) := loopO (r14_Face_L0b a0 a1) s
theorem r14_Face_L0_ok {a0 : Plan} {a1 : Int} {s : Int} {r : (Unit) ⊕ (Unit)} {Q : TX → Fr → TS → Prop} (h : r14_Face_L0 a0 a1 s = some r) {f : Fr} {S : TS} (hR : r14_Face_L0R a0 a1 s f S) (hQ : ∀ tx f S, r14_Face_L0E a0 a1 r tx f S → Q tx f S) : wp prog [2] (callX prog cfg (famT r14_Face_fams)) (.loop x60L0) Q f S := by
  refine wp_loopO x60L0.eq_1 ?_ h hR hQ
  clear hQ hR h
  intro s x f S h hR
  revert h hR; revert s; intro i3 h hR
  obtain ⟨rfl, f1, f2, f5⟩ := hR
  unfold r14_Face_L0b at h
  try dsimp only at h
  by_cases c5 : i3 < ((a0.faces.length : Int))
  · have bc5 : (decide (i3 < ((a0.faces.length : Int)))) = true := decT c5
    rw [if_pos c5] at h
    obtain ⟨e3, he3, h⟩ := obind h
    have i5 := indexSl_at (enc := int1) he3 (sz := 1) rfl
    by_cases c6 : e3 = a1
    · have bc6 : (e3 == a1) = true := beqT c6
      rw [if_pos c6] at h
      cases h
      simp only [stepQ_exit, stepQ_ret, r14_Face_L0E, ↓askB_true, ↓askB_false, beq_self_eq_true, wz, Nat.reduceAdd, Nat.reduceSub, Nat.reduceMul, Nat.reduceBEq, Nat.reduceEqDiff, Nat.reduceLeDiff, Nat.reduceLT, reduceCtorEq, Arc.e, Node.e, Pt.e, int1, f1, f2, f5, bc5, i5, bc6]
    · have bc6 : (e3 == a1) = false := beqF c6
      rw [if_neg c6] at h
      cases h
      simp only [stepQ_normal, r14_Face_L0R, ↓askB_true, ↓askB_false, beq_self_eq_true, wz, Nat.reduceAdd, Nat.reduceSub, Nat.reduceMul, Nat.reduceBEq, Nat.reduceEqDiff, Nat.reduceLeDiff, Nat.reduceLT, reduceCtorEq, Arc.e, Node.e, Pt.e, int1, f1, f2, f5, bc5, i5, bc6]
  · have bc5 : (decide (i3 < ((a0.faces.length : Int)))) = false := decF c5
    rw [if_neg c5] at h
    cases h
    simp only [stepQ_exit, stepQ_ret, r14_Face_L0E, ↓askB_true, ↓askB_false, beq_self_eq_true, wz, Nat.reduceAdd, Nat.reduceSub, Nat.reduceMul, Nat.reduceBEq, Nat.reduceEqDiff, Nat.reduceLeDiff, Nat.reduceLT, reduceCtorEq, Arc.e, Node.e, Pt.e, int1, f1, f2, f5, bc5]

noncomputable def r14_Face (a0 : Plan) (a1 : Int) : Option (Bool) := ((r14_Face_L0 a0 a1 0).bind (fun x1 => sumK x1 (fun _ => some true) (fun _ => some (a1 == 0))))
theorem r14_Face_ok {a0 : Plan} {a1 : Int} {r : Bool} (h : r14_Face a0 a1 = some r) : callL prog cfg (famT r14_Face_fams) 60 [.agg [.r (.lst (List.map Node.e a0.nodes) none), .r (.lst (List.map Arc.e a0.arcs) none), .r (.lst (List.map int1 a0.faces) none)], I a1] (E0 []) = some (B r, E0 [], none) := by
  refine callL_wpG cx60 (ax := [.agg [.r (.lst (List.map Node.e a0.nodes) none), .r (.lst (List.map Arc.e a0.arcs) none), .r (.lst (List.map int1 a0.faces) none)], I a1]) rfl rfl ?_
  unfold r14_Face at h
  try dsimp only at h
  obtain ⟨x1, hx1, h⟩ := obind h
  simp only [↓askB_true, ↓askB_false, beq_self_eq_true, wz, Nat.reduceAdd, Nat.reduceSub, Nat.reduceMul, Nat.reduceBEq, Nat.reduceEqDiff, Nat.reduceLeDiff, Nat.reduceLT, reduceCtorEq, Arc.e, Node.e, Pt.e, int1, x60, x60B]
  refine r14_Face_L0_ok hx1 ?_ ?_
  · simp only [r14_Face_L0R, ↓askB_true, ↓askB_false, beq_self_eq_true, wz, Nat.reduceAdd, Nat.reduceSub, Nat.reduceMul, Nat.reduceBEq, Nat.reduceEqDiff, Nat.reduceLeDiff, Nat.reduceLT, reduceCtorEq, Arc.e, Node.e, Pt.e, int1, x60, x60B]
  intro tx f S hE
  rcases x1 with _u | _u
  · try dsimp only [sumK] at h
    obtain ⟨rfl, rfl, f4⟩ := hE
    cases h
    simp only [retG, ↓askB_true, ↓askB_false, beq_self_eq_true, wz, Nat.reduceAdd, Nat.reduceSub, Nat.reduceMul, Nat.reduceBEq, Nat.reduceEqDiff, Nat.reduceLeDiff, Nat.reduceLT, reduceCtorEq, Arc.e, Node.e, Pt.e, int1, f4]
  · try dsimp only [sumK] at h
    obtain ⟨rfl, rfl, f1⟩ := hE
    cases h
    simp only [retG, ↓askB_true, ↓askB_false, beq_self_eq_true, wz, Nat.reduceAdd, Nat.reduceSub, Nat.reduceMul, Nat.reduceBEq, Nat.reduceEqDiff, Nat.reduceLeDiff, Nat.reduceLT, reduceCtorEq, Arc.e, Node.e, Pt.e, int1, f1]

noncomputable def r14_Face_fam : Fam := famC prog cfg (famT r14_Face_fams) 60
theorem r14_Face_val {a0 : Plan} {a1 : Int} {r : Bool} (h : r14_Face a0 a1 = some r) : r14_Face_fam.val [.agg [.r (.lst (List.map Node.e a0.nodes) none), .r (.lst (List.map Arc.e a0.arcs) none), .r (.lst (List.map int1 a0.faces) none)], I a1] = some (.flat (B r)) := famC_flat (r14_Face_ok h) rfl rfl
def r14_Face_At (fams : List Fam) : Prop := ∀  {a0 : Plan} {a1 : Int} {r : Bool} {xs_ : List TV} {os os1 : List TO}, r14_Face a0 a1 = some r → argsT false (E0 os) xs_ = some ([.agg [.r (.lst (List.map Node.e a0.nodes) none), .r (.lst (List.map Arc.e a0.arcs) none), .r (.lst (List.map int1 a0.faces) none)], I a1], E0 os1) → callX prog cfg (famT fams) 60 xs_ (E0 os) = some (B r, E0 os1, none)
theorem r14_Face_goods : ∀ x, x ∈ r14_Face_fams → x.Good prog := goods0
theorem r14_Face_good : r14_Face_fam.Good prog := famC_good sound r14_Face_goods
/- 88: mapsheets/mapsheetsref14.Segments -/
noncomputable def r14_Segments_fams : List Fam := [r14_line_fam]
def r14_Segments_L0b (a0 : Plan) (i11 : Int) (y3 : (List Pt) × Bool) : (List r14_Segment) × Int → Option (((List r14_Segment) × Int) ⊕ (((List r14_Segment)))) := fun (l18, i26) => (if (w64 (i26 + 1)) < ((y3.1.length : Int)) then ((at_ a0.arcs i11).bind fun e22 => ((at_ y3.1 i26).bind fun e23 => ((at_ y3.1 (w64 (i26 + 1))).bind fun e24 => ((appO 112 l18 (([(r14_Segment.mk e22 i26 (w64 (((y3.1.length : Int)) - 1)) e23 e24)] : List r14_Segment))).bind fun l21 => some (.inl (l21, w64 (i26 + 1))))))) else some (.inr l18))
def r14_Segments_L0R (a0 : Plan) (i11 : Int) (y3 : (List Pt) × Bool) : (List r14_Segment) × Int → Fr → TS → Prop := fun (l18, i26) f S => ∃ os v18, S = E0 os ∧ OsOk os ∧ Acc os 12 v18 (List.map r14_Segment.e l18) ∧ f 1 = .lv [.r (.lst (List.map Node.e a0.nodes) none), .r (.lst (List.map Arc.e a0.arcs) none), .r (.lst (List.map int1 a0.faces) none)] ∧ f 3 = v18 ∧ f 4 = I i11 ∧ f 5 = .r (.lst (List.map Pt.e y3.1) none) ∧ f 7 = I i26
def r14_Segments_L0E (a0 : Plan) (i11 : Int) (y3 : (List Pt) × Bool) : (((List r14_Segment))) → TX → Fr → TS → Prop
  | l20, tx, f, S => tx = TX.exit 2 ∧ ∃ os v20, S = E0 os ∧ OsOk os ∧ Acc os 12 v20 (List.map r14_Segment.e l20) ∧ f 1 = .lv [.r (.lst (List.map Node.e a0.nodes) none), .r (.lst (List.map Arc.e a0.arcs) none), .r (.lst (List.map int1 a0.faces) none)] ∧ f 3 = v20 ∧ f 4 = I i11
noncomputable def r14_Segments_L0 (a0 : Plan) (i11 : Int) (y3 : (List Pt) × Bool) (s : (List r14_Segment) × Int) : Option (((List r14_Segment))) := loopO (r14_Segments_L0b a0 i11 y3) s
theorem r14_Segments_L0_ok {a0 : Plan} {i11 : Int} {y3 : (List Pt) × Bool} {s : (List r14_Segment) × Int} {r : ((List r14_Segment))} {Q : TX → Fr → TS → Prop} (h : r14_Segments_L0 a0 i11 y3 s = some r) {f : Fr} {S : TS} (hR : r14_Segments_L0R a0 i11 y3 s f S) (hQ : ∀ tx f S, r14_Segments_L0E a0 i11 y3 r tx f S → Q tx f S) : wp prog [1] (callX prog cfg (famT r14_Segments_fams)) (.loop x88L0) Q f S := by
  refine wp_loopO x88L0.eq_1 ?_ h hR hQ
  clear hQ hR h
  intro s x f S h hR
  obtain ⟨l18, i26⟩ := s
  obtain ⟨os18, v18, rfl, qos18, Av18, f1, f3, f4, f5, f7⟩ := hR
  have bv18 := Av18.rd.b
  unfold r14_Segments_L0b at h
  try dsimp only at h
  by_cases c10 : (w64 (i26 + 1)) < ((y3.1.length : Int))
  · have bc10 : (decide ((w64 (i26 + 1)) < ((y3.1.length : Int)))) = true := decT c10
    rw [if_pos c10] at h
    have rsr10 := sameS_refl qos18
    obtain ⟨e22, he22, h⟩ := obind h
    have i30 := indexSl_at (enc := Arc.e) he22 (sz := 6) rfl
    obtain ⟨e23, he23, h⟩ := obind h
    have i31 := indexSl_at (enc := Pt.e) he23 (sz := 2) rfl
    obtain ⟨e24, he24, h⟩ := obind h
    have i32 := indexSl_at (enc := Pt.e) he24 (sz := 2) rfl
    obtain ⟨l21, hl21, h⟩ := obind h
    obtain ⟨v21, w7, os19, hw7, sw7, fw7, kw7, Av21l, qos19, sbw7, kcw7, kbw7, kaw7, krw7⟩ := AccL.appT (os := os18) (v := v18) (x := .r (.lst [[cI e22.id, cI e22.frm, cI e22.to, .lst (List.map Pt.e e22.via) none, cI e22.left, cI e22.right, cI i26, cI (w64 (((y3.1.length : Int)) - 1)), cI e23.x, cI e23.y, cI e24.x, cI e24.y]] (some 1))) (xs := l18) (ys := ([(r14_Segment.mk e22 i26 (w64 (((y3.1.length : Int)) - 1)) e23 e24)] : List r14_Segment)) r14_Segment.eok hl21 Av18.l qos18 rfl
    have bv21 := Av21l.rd.b
    replace kw7 := zeroEk_out kw7
    have Av21 := kcw7 (Or.inl (by simp))
    cases h
    simp only [stepQ_normal, ↓askB_true, ↓askB_false, beq_self_eq_true, wz, Nat.reduceAdd, Nat.reduceSub, Nat.reduceMul, Nat.reduceBEq, Nat.reduceEqDiff, Nat.reduceLeDiff, Nat.reduceLT, reduceCtorEq, Arc.e, Node.e, Pt.e, r14_Segment.e, int1, bv18, f1, f3, f4, f5, f7, bc10, rsr10, i30, i31, i32, hw7, sw7, fw7, kw7, bv21]
    unfold r14_Segments_L0R
    refine ⟨os19, v21, rfl, qos19, Av21, ?_⟩
    simp only [↓askB_true, ↓askB_false, beq_self_eq_true, wz, Nat.reduceAdd, Nat.reduceSub, Nat.reduceMul, Nat.reduceBEq, Nat.reduceEqDiff, Nat.reduceLeDiff, Nat.reduceLT, reduceCtorEq, Arc.e, Node.e, Pt.e, r14_Segment.e, int1, bv18, f1, f3, f4, f5, f7, bc10, rsr10, i30, i31, i32, hw7, sw7, fw7, kw7, bv21]
  · have bc10 : (decide ((w64 (i26 + 1)) < ((y3.1.length : Int)))) = false := decF c10
    rw [if_neg c10] at h
    cases h
    simp only [stepQ_exit, stepQ_ret, ↓askB_true, ↓askB_false, beq_self_eq_true, wz, Nat.reduceAdd, Nat.reduceSub, Nat.reduceMul, Nat.reduceBEq, Nat.reduceEqDiff, Nat.reduceLeDiff, Nat.reduceLT, reduceCtorEq, Arc.e, Node.e, Pt.e, r14_Segment.e, int1, bv18, f1, f3, f4, f5, f7, bc10]
    unfold r14_Segments_L0E
    refine ⟨rfl, ?_⟩
    refine ⟨os18, v18, rfl, qos18, Av18, ?_⟩
    simp only [↓askB_true, ↓askB_false, beq_self_eq_true, wz, Nat.reduceAdd, Nat.reduceSub, Nat.reduceMul, Nat.reduceBEq, Nat.reduceEqDiff, Nat.reduceLeDiff, Nat.reduceLT, reduceCtorEq, Arc.e, Node.e, Pt.e, r14_Segment.e, int1, bv18, f1, f3, f4, f5, f7, bc10]

def r14_Segments_L1b (a0 : Plan) : (List r14_Segment) × Int → Option (((List r14_Segment) × Int) ⊕ (((List r14_Segment)))) := fun (l8, i11) => (if i11 < ((a0.arcs.length : Int)) then ((at_ a0.arcs i11).bind fun e15 => ((r14_line a0 e15).bind fun y3 => ((r14_Segments_L0 a0 i11 y3 (l8, 0)).bind (fun l22 => some (.inl (l22, w64 (i11 + 1))))))) else some (.inr l8))
def r14_Segments_L1R (a0 : Plan) : (List r14_Segment) × Int → Fr → TS → Prop := fun (l8, i11) f S => ∃ os v8, S = E0 os ∧ OsOk os ∧ Acc os 12 v8 (List.map r14_Segment.e l8) ∧ f 1 = .lv [.r (.lst (List.map Node.e a0.nodes) none), .r (.lst (List.map Arc.e a0.arcs) none), .r (.lst (List.map int1 a0.faces) none)] ∧ f 3 = v8 ∧ f 4 = I i11
def r14_Segments_L1E (a0 : Plan) : (((List r14_Segment))) → TX → Fr → TS → Prop
  | l15, tx, f, S => tx = TX.exit 0 ∧ ∃ os v15, S = E0 os ∧ OsOk os ∧ Acc os 12 v15 (List.map r14_Segment.e l15) ∧ f 3 = v15
noncomputable def r14_Segments_L1 (a0 : Plan) (s : (List r14_Segment) × Int) : Option (((List r14_Segment))) := loopO (r14_Segments_L1b a0) s
theorem r14_Segments_L1_ok {a0 : Plan} {s : (List r14_Segment) × Int} {r : ((List r14_Segment))} {Q : TX → Fr → TS → Prop} (h : r14_Segments_L1 a0 s = some r) {f : Fr} {S : TS} (hR : r14_Segments_L1R a0 s f S) (hQ : ∀ tx f S, r14_Segments_L1E a0 r tx f S → Q tx f S) : wp prog [1] (callX prog cfg (famT r14_Segments_fams)) (.loop x88L1) Q f S := by
  refine wp_loopO x88L1.eq_1 ?_ h hR hQ
  clear hQ hR h
  intro s x f S h hR
  obtain ⟨l8, i11⟩ := s
  obtain ⟨os13, v8, rfl, qos13, Av8, f1, f3, f4⟩ := hR
  have bv8 := Av8.rd.b
  unfold r14_Segments_L1b at h
  try dsimp only at h
  by_cases c7 : i11 < ((a0.arcs.length : Int))
  · have bc7 : (decide (i11 < ((a0.arcs.length : Int)))) = true := decT c7
    rw [if_pos c7] at h
    have rsr7 := sameS_refl qos13
    obtain ⟨e15, he15, h⟩ := obind h
    have i21 := indexSl_at (enc := Arc.e) he15 (sz := 6) rfl
    obtain ⟨y3, hy3, h⟩ := obind h
    have g3 : ∀ os, callX prog cfg (famT r14_Segments_fams) 59 [.agg [.r (.lst (List.map Node.e a0.nodes) none), .r (.lst (List.map Arc.e a0.arcs) none), .r (.lst (List.map int1 a0.faces) none)], .agg [I e15.id, I e15.frm, I e15.to, .r (.lst (List.map Pt.e e15.via) none), I e15.left, I e15.right]] (E0 os) = some (.tup [.r (.lst (List.map Pt.e y3.1) none), B y3.2], E0 os, none) := fun os => callX_fam rfl (famLook_hit rfl (r14_line_val hy3))
    obtain ⟨x3, hx3, h⟩ := obind h
    simp only [↓askB_true, ↓askB_false, beq_self_eq_true, wz, Nat.reduceAdd, Nat.reduceSub, Nat.reduceMul, Nat.reduceBEq, Nat.reduceEqDiff, Nat.reduceLeDiff, Nat.reduceLT, reduceCtorEq, Arc.e, Node.e, Pt.e, r14_Segment.e, int1, bv8, f1, f3, f4, bc7, rsr7, i21, g3]
    refine r14_Segments_L0_ok hx3 ?_ ?_
    · unfold r14_Segments_L0R
      refine ⟨os13, v8, rfl, qos13, Av8, ?_⟩
      simp only [↓askB_true, ↓askB_false, beq_self_eq_true, wz, Nat.reduceAdd, Nat.reduceSub, Nat.reduceMul, Nat.reduceBEq, Nat.reduceEqDiff, Nat.reduceLeDiff, Nat.reduceLT, reduceCtorEq, Arc.e, Node.e, Pt.e, r14_Segment.e, int1, bv8, f1, f3, f4, bc7, rsr7, i21, g3]
    intro tx f S hE
    revert hx3 h hE; revert x3; intro l22 hx3 h hE
    try dsimp only [sumK] at h
    obtain ⟨rfl, os20, v22, rfl, qos20, Av22, f1, f3, f4⟩ := hE
    have bv22 := Av22.rd.b
    cases h
    simp only [stepQ_normal, ↓askB_true, ↓askB_false, beq_self_eq_true, wz, Nat.reduceAdd, Nat.reduceSub, Nat.reduceMul, Nat.reduceBEq, Nat.reduceEqDiff, Nat.reduceLeDiff, Nat.reduceLT, reduceCtorEq, Arc.e, Node.e, Pt.e, r14_Segment.e, int1, bv8, bc7, rsr7, i21, g3, bv22, f1, f3, f4]
    unfold r14_Segments_L1R
    refine ⟨os20, v22, rfl, qos20, Av22, ?_⟩
    simp only [↓askB_true, ↓askB_false, beq_self_eq_true, wz, Nat.reduceAdd, Nat.reduceSub, Nat.reduceMul, Nat.reduceBEq, Nat.reduceEqDiff, Nat.reduceLeDiff, Nat.reduceLT, reduceCtorEq, Arc.e, Node.e, Pt.e, r14_Segment.e, int1, bv8, bc7, rsr7, i21, g3, bv22, f1, f3, f4]
  · have bc7 : (decide (i11 < ((a0.arcs.length : Int)))) = false := decF c7
    rw [if_neg c7] at h
    cases h
    simp only [stepQ_exit, stepQ_ret, ↓askB_true, ↓askB_false, beq_self_eq_true, wz, Nat.reduceAdd, Nat.reduceSub, Nat.reduceMul, Nat.reduceBEq, Nat.reduceEqDiff, Nat.reduceLeDiff, Nat.reduceLT, reduceCtorEq, Arc.e, Node.e, Pt.e, r14_Segment.e, int1, bv8, f1, f3, f4, bc7]
    unfold r14_Segments_L1E
    refine ⟨rfl, ?_⟩
    refine ⟨os13, v8, rfl, qos13, Av8, ?_⟩
    simp only [↓askB_true, ↓askB_false, beq_self_eq_true, wz, Nat.reduceAdd, Nat.reduceSub, Nat.reduceMul, Nat.reduceBEq, Nat.reduceEqDiff, Nat.reduceLeDiff, Nat.reduceLT, reduceCtorEq, Arc.e, Node.e, Pt.e, r14_Segment.e, int1, bv8, f1, f3, f4, bc7]

noncomputable def r14_Segments (a0 : Plan) : Option ((List r14_Segment)) := ((r14_Segments_L1 a0 (([] : List r14_Segment), 0)).bind (fun l23 => some l23))
theorem r14_Segments_ok {a0 : Plan} {r : (List r14_Segment)} (h : r14_Segments a0 = some r) : callL prog cfg (famT r14_Segments_fams) 88 [.agg [.r (.lst (List.map Node.e a0.nodes) none), .r (.lst (List.map Arc.e a0.arcs) none), .r (.lst (List.map int1 a0.faces) none)]] (E0 []) = some (.r (.lst (List.map r14_Segment.e r) none), E0 [], none) := by
  refine callL_wpG cx88 (ax := [.agg [.r (.lst (List.map Node.e a0.nodes) none), .r (.lst (List.map Arc.e a0.arcs) none), .r (.lst (List.map int1 a0.faces) none)]]) rfl rfl ?_
  unfold r14_Segments at h
  try dsimp only at h
  obtain ⟨x4, hx4, h⟩ := obind h
  simp only [↓askB_true, ↓askB_false, beq_self_eq_true, wz, Nat.reduceAdd, Nat.reduceSub, Nat.reduceMul, Nat.reduceBEq, Nat.reduceEqDiff, Nat.reduceLeDiff, Nat.reduceLT, reduceCtorEq, Arc.e, Node.e, Pt.e, r14_Segment.e, int1, x88, x88B]
  refine r14_Segments_L1_ok hx4 ?_ ?_
  · unfold r14_Segments_L1R
    refine ⟨[], nilT, rfl, osok0, Acc.nil, ?_⟩
    simp only [↓askB_true, ↓askB_false, beq_self_eq_true, wz, Nat.reduceAdd, Nat.reduceSub, Nat.reduceMul, Nat.reduceBEq, Nat.reduceEqDiff, Nat.reduceLeDiff, Nat.reduceLT, reduceCtorEq, Arc.e, Node.e, Pt.e, r14_Segment.e, int1, x88, x88B]
  intro tx f S hE
  revert hx4 h hE; revert x4; intro l23 hx4 h hE
  try dsimp only [sumK] at h
  obtain ⟨rfl, os21, v23, rfl, qos21, Av23, f3⟩ := hE
  have bv23 := Av23.rd.b
  cases h
  simp only [↓askB_true, ↓askB_false, beq_self_eq_true, wz, Nat.reduceAdd, Nat.reduceSub, Nat.reduceMul, Nat.reduceBEq, Nat.reduceEqDiff, Nat.reduceLeDiff, Nat.reduceLT, reduceCtorEq, Arc.e, Node.e, Pt.e, r14_Segment.e, int1, bv23, f3]
  obtain ⟨os22, zos22, kzos22, qos22⟩ := Av23.rd.frz qos21
  have A1 := kzos22.own _ _ _ Av23
  refine retG_of (vs := [v23]) (resF_cons (resF1_of (by simp only [↓askB_true, ↓askB_false, beq_self_eq_true, wz, Nat.reduceAdd, Nat.reduceSub, Nat.reduceMul, Nat.reduceBEq, Nat.reduceEqDiff, Nat.reduceLeDiff, Nat.reduceLT, reduceCtorEq, Arc.e, Node.e, Pt.e, r14_Segment.e, int1, bv23, f3]) bv23.2.1) resF_nil) (freezeVs_cons (freezeV_rd Av23.rd zos22) rfl)

noncomputable def r14_Segments_fam : Fam := famC prog cfg (famT r14_Segments_fams) 88
theorem r14_Segments_val {a0 : Plan} {r : (List r14_Segment)} (h : r14_Segments a0 = some r) : r14_Segments_fam.val [.agg [.r (.lst (List.map Node.e a0.nodes) none), .r (.lst (List.map Arc.e a0.arcs) none), .r (.lst (List.map int1 a0.faces) none)]] = some (.flat (.r (.lst (List.map r14_Segment.e r) none))) := famC_flat (r14_Segments_ok h) rfl rfl
def r14_Segments_At (fams : List Fam) : Prop := ∀  {a0 : Plan} {r : (List r14_Segment)} {xs_ : List TV} {os os1 : List TO}, r14_Segments a0 = some r → argsT false (E0 os) xs_ = some ([.agg [.r (.lst (List.map Node.e a0.nodes) none), .r (.lst (List.map Arc.e a0.arcs) none), .r (.lst (List.map int1 a0.faces) none)]], E0 os1) → callX prog cfg (famT fams) 88 xs_ (E0 os) = some (.r (.lst (List.map r14_Segment.e r) none), E0 os1, none)
theorem r14_Segments_goods : ∀ x, x ∈ r14_Segments_fams → x.Good prog := (goodsC r14_line_good goods0)
theorem r14_Segments_good : r14_Segments_fam.Good prog := famC_good sound r14_Segments_goods
/- 66: mapsheets/mapsheetsref08.Near -/
noncomputable def r08_Near_fams : List Fam := []
def r08_Near_L0b (a0 : List Pt) : Int → Option ((Int) ⊕ ((Unit) ⊕ (Unit))) := fun i3 => (if i3 < ((a0.length : Int)) then ((at_ a0 i3).bind fun e3 => (if e3.x < ((-2097152)) then some (.inr (Sum.inl ())) else (if e3.x > 2097152 then some (.inr (Sum.inl ())) else (if e3.y < ((-2097152)) then some (.inr (Sum.inl ())) else (if e3.y > 2097152 then some (.inr (Sum.inl ())) else some (.inl (w64 (i3 + 1)))))))) else some (.inr (Sum.inr ())))
def r08_Near_L0R (a0 : List Pt) : Int → Fr → TS → Prop := fun i3 f S => S = E0 [] ∧ f 0 = .r (.lst (List.map Pt.e a0) none) ∧ f 3 = I i3
def r08_Near_L0E (a0 : List Pt) : ((Unit) ⊕ (Unit)) → TX → Fr → TS → Prop
  | (Sum.inl ()), tx, f, S => tx = TX.ret ∧ S = E0 [] ∧ f 2 = B false
  | (Sum.inr ()), tx, f, S => tx = TX.exit 0 ∧ S = E0 []
noncomputable def r08_Near_L0 (a0 : List Pt) (s : Int) : Option ((Unit) ⊕ (Unit)) := loopO (r08_Near_L0b a0) s
theorem r08_Near_L0_ok {a0 : List Pt} {s : Int} {r : (Unit) ⊕ (Unit)} {Q : TX → Fr → TS → Prop} (h : r08_Near_L0 a0 s = some r) {f : Fr} {S : TS} (hR : r08_Near_L0R a0 s f S) (hQ : ∀ tx f S, r08_Near_L0E a0 r tx f S → Q tx f S) : wp prog [] (callX prog cfg (famT r08_Near_fams)) (.loop x66L0) Q f S := by
  refine wp_loopO x66L0.eq_1 ?_ h hR hQ
  clear hQ hR h
  intro s x f S h hR
  revert h hR; revert s; intro i3 h hR
  obtain ⟨rfl, f0, f3⟩ := hR
  unfold r08_Near_L0b at h
  try dsimp only at h
  by_cases c11 : i3 < ((a0.length : Int))
  · have bc11 : (decide (i3 < ((a0.length : Int)))) = true := decT c11
    rw [if_pos c11] at h
    obtain ⟨e3, he3, h⟩ := obind h
    have i5 := indexSl_at (enc := Pt.e) he3 (sz := 2) rfl
    by_cases c12 : e3.x < ((-2097152))
    · have bc12 : (decide (e3.x < ((-2097152)))) = true := decT c12
      rw [if_pos c12] at h
      cases h
      simp only [stepQ_exit, stepQ_ret, r08_Near_L0E, ↓askB_true, ↓askB_false, beq_self_eq_true, wz, Nat.reduceAdd, Nat.reduceSub, Nat.reduceMul, Nat.reduceBEq, Nat.reduceEqDiff, Nat.reduceLeDiff, Nat.reduceLT, reduceCtorEq, Pt.e, f0, f3, bc11, i5, bc12]
    · have bc12 : (decide (e3.x < ((-2097152)))) = false := decF c12
      rw [if_neg c12] at h
      by_cases c13 : e3.x > 2097152
      · have bc13 : (decide (e3.x > 2097152)) = true := decT c13
        rw [if_pos c13] at h
        cases h
        simp only [stepQ_exit, stepQ_ret, r08_Near_L0E, ↓askB_true, ↓askB_false, beq_self_eq_true, wz, Nat.reduceAdd, Nat.reduceSub, Nat.reduceMul, Nat.reduceBEq, Nat.reduceEqDiff, Nat.reduceLeDiff, Nat.reduceLT, reduceCtorEq, Pt.e, f0, f3, bc11, i5, bc12, bc13]
      · have bc13 : (decide (e3.x > 2097152)) = false := decF c13
        rw [if_neg c13] at h
        by_cases c14 : e3.y < ((-2097152))
        · have bc14 : (decide (e3.y < ((-2097152)))) = true := decT c14
          rw [if_pos c14] at h
          cases h
          simp only [stepQ_exit, stepQ_ret, r08_Near_L0E, ↓askB_true, ↓askB_false, beq_self_eq_true, wz, Nat.reduceAdd, Nat.reduceSub, Nat.reduceMul, Nat.reduceBEq, Nat.reduceEqDiff, Nat.reduceLeDiff, Nat.reduceLT, reduceCtorEq, Pt.e, f0, f3, bc11, i5, bc12, bc13, bc14]
        · have bc14 : (decide (e3.y < ((-2097152)))) = false := decF c14
          rw [if_neg c14] at h
          by_cases c15 : e3.y > 2097152
          · have bc15 : (decide (e3.y > 2097152)) = true := decT c15
            rw [if_pos c15] at h
            cases h
            simp only [stepQ_exit, stepQ_ret, r08_Near_L0E, ↓askB_true, ↓askB_false, beq_self_eq_true, wz, Nat.reduceAdd, Nat.reduceSub, Nat.reduceMul, Nat.reduceBEq, Nat.reduceEqDiff, Nat.reduceLeDiff, Nat.reduceLT, reduceCtorEq, Pt.e, f0, f3, bc11, i5, bc12, bc13, bc14, bc15]
          · have bc15 : (decide (e3.y > 2097152)) = false := decF c15
            rw [if_neg c15] at h
            cases h
            simp only [stepQ_normal, r08_Near_L0R, ↓askB_true, ↓askB_false, beq_self_eq_true, wz, Nat.reduceAdd, Nat.reduceSub, Nat.reduceMul, Nat.reduceBEq, Nat.reduceEqDiff, Nat.reduceLeDiff, Nat.reduceLT, reduceCtorEq, Pt.e, f0, f3, bc11, i5, bc12, bc13, bc14, bc15]
  · have bc11 : (decide (i3 < ((a0.length : Int)))) = false := decF c11
    rw [if_neg c11] at h
    cases h
    simp only [stepQ_exit, stepQ_ret, r08_Near_L0E, ↓askB_true, ↓askB_false, beq_self_eq_true, wz, Nat.reduceAdd, Nat.reduceSub, Nat.reduceMul, Nat.reduceBEq, Nat.reduceEqDiff, Nat.reduceLeDiff, Nat.reduceLT, reduceCtorEq, Pt.e, f0, f3, bc11]

noncomputable def r08_Near (a0 : List Pt) : Option (Bool) := ((r08_Near_L0 a0 0).bind (fun x1 => sumK x1 (fun _ => some false) (fun _ => some true)))
theorem r08_Near_ok {a0 : List Pt} {r : Bool} (h : r08_Near a0 = some r) : callL prog cfg (famT r08_Near_fams) 66 [.r (.lst (List.map Pt.e a0) none)] (E0 []) = some (B r, E0 [], none) := by
  refine callL_wpG cx66 (ax := [.r (.lst (List.map Pt.e a0) none)]) rfl rfl ?_
  unfold r08_Near at h
  try dsimp only at h
  obtain ⟨x1, hx1, h⟩ := obind h
  simp only [↓askB_true, ↓askB_false, beq_self_eq_true, wz, Nat.reduceAdd, Nat.reduceSub, Nat.reduceMul, Nat.reduceBEq, Nat.reduceEqDiff, Nat.reduceLeDiff, Nat.reduceLT, reduceCtorEq, Pt.e, x66, x66B]
  refine r08_Near_L0_ok hx1 ?_ ?_
  · simp only [r08_Near_L0R, ↓askB_true, ↓askB_false, beq_self_eq_true, wz, Nat.reduceAdd, Nat.reduceSub, Nat.reduceMul, Nat.reduceBEq, Nat.reduceEqDiff, Nat.reduceLeDiff, Nat.reduceLT, reduceCtorEq, Pt.e, x66, x66B]
  intro tx f S hE
  rcases x1 with _u | _u
  · try dsimp only [sumK] at h
    obtain ⟨rfl, rfl, f2⟩ := hE
    cases h
    simp only [retG, ↓askB_true, ↓askB_false, beq_self_eq_true, wz, Nat.reduceAdd, Nat.reduceSub, Nat.reduceMul, Nat.reduceBEq, Nat.reduceEqDiff, Nat.reduceLeDiff, Nat.reduceLT, reduceCtorEq, Pt.e, f2]
  · try dsimp only [sumK] at h
    obtain ⟨rfl, rfl⟩ := hE
    cases h
    simp only [retG, ↓askB_true, ↓askB_false, beq_self_eq_true, wz, Nat.reduceAdd, Nat.reduceSub, Nat.reduceMul, Nat.reduceBEq, Nat.reduceEqDiff, Nat.reduceLeDiff, Nat.reduceLT, reduceCtorEq, Pt.e]

noncomputable def r08_Near_fam : Fam := famC prog cfg (famT r08_Near_fams) 66
theorem r08_Near_val {a0 : List Pt} {r : Bool} (h : r08_Near a0 = some r) : r08_Near_fam.val [.r (.lst (List.map Pt.e a0) none)] = some (.flat (B r)) := famC_flat (r08_Near_ok h) rfl rfl
def r08_Near_At (fams : List Fam) : Prop := ∀  {a0 : List Pt} {r : Bool} {xs_ : List TV} {os os1 : List TO}, r08_Near a0 = some r → argsT false (E0 os) xs_ = some ([.r (.lst (List.map Pt.e a0) none)], E0 os1) → callX prog cfg (famT fams) 66 xs_ (E0 os) = some (B r, E0 os1, none)
theorem r08_Near_goods : ∀ x, x ∈ r08_Near_fams → x.Good prog := goods0
theorem r08_Near_good : r08_Near_fam.Good prog := famC_good sound r08_Near_goods
/- 68: mapsheets/mapsheetsref08.cross -/
noncomputable def r08_cross_fams : List Fam := []
noncomputable def r08_cross (a0 : Pt) (a1 : Pt) (a2 : Pt) (a3 : Pt) : Option (Int) := some (w64 ((w64 ((w64 (a1.x - a0.x)) * (w64 (a3.y - a2.y)))) - (w64 ((w64 (a1.y - a0.y)) * (w64 (a3.x - a2.x))))))
theorem r08_cross_ok {a0 : Pt} {a1 : Pt} {a2 : Pt} {a3 : Pt} {r : Int} (h : r08_cross a0 a1 a2 a3 = some r) : callL prog cfg (famT r08_cross_fams) 68 [.agg [I a0.x, I a0.y], .agg [I a1.x, I a1.y], .agg [I a2.x, I a2.y], .agg [I a3.x, I a3.y]] (E0 []) = some (I r, E0 [], none) := by
  refine callL_wpG cx68 (ax := [.agg [I a0.x, I a0.y], .agg [I a1.x, I a1.y], .agg [I a2.x, I a2.y], .agg [I a3.x, I a3.y]]) rfl rfl ?_
  unfold r08_cross at h
  try dsimp only at h
  cases h
  simp only [retG, ↓askB_true, ↓askB_false, beq_self_eq_true, wz, Nat.reduceAdd, Nat.reduceSub, Nat.reduceMul, Nat.reduceBEq, Nat.reduceEqDiff, Nat.reduceLeDiff, Nat.reduceLT, reduceCtorEq, x68, x68B]

noncomputable def r08_cross_fam : Fam := famC prog cfg (famT r08_cross_fams) 68
theorem r08_cross_val {a0 : Pt} {a1 : Pt} {a2 : Pt} {a3 : Pt} {r : Int} (h : r08_cross a0 a1 a2 a3 = some r) : r08_cross_fam.val [.agg [I a0.x, I a0.y], .agg [I a1.x, I a1.y], .agg [I a2.x, I a2.y], .agg [I a3.x, I a3.y]] = some (.flat (I r)) := famC_flat (r08_cross_ok h) rfl rfl
def r08_cross_At (fams : List Fam) : Prop := ∀  {a0 : Pt} {a1 : Pt} {a2 : Pt} {a3 : Pt} {r : Int} {xs_ : List TV} {os os1 : List TO}, r08_cross a0 a1 a2 a3 = some r → argsT false (E0 os) xs_ = some ([.agg [I a0.x, I a0.y], .agg [I a1.x, I a1.y], .agg [I a2.x, I a2.y], .agg [I a3.x, I a3.y]], E0 os1) → callX prog cfg (famT fams) 68 xs_ (E0 os) = some (I r, E0 os1, none)
theorem r08_cross_goods : ∀ x, x ∈ r08_cross_fams → x.Good prog := goods0
theorem r08_cross_good : r08_cross_fam.Good prog := famC_good sound r08_cross_goods
/- 149: mapsheets/mapsheetsref08.dot -/
noncomputable def r08_dot_fams : List Fam := []
noncomputable def r08_dot (a0 : Pt) (a1 : Pt) (a2 : Pt) (a3 : Pt) : Option (Int) := some (w64 ((w64 ((w64 (a1.x - a0.x)) * (w64 (a3.x - a2.x)))) + (w64 ((w64 (a1.y - a0.y)) * (w64 (a3.y - a2.y))))))
theorem r08_dot_ok {a0 : Pt} {a1 : Pt} {a2 : Pt} {a3 : Pt} {r : Int} (h : r08_dot a0 a1 a2 a3 = some r) : callL prog cfg (famT r08_dot_fams) 149 [.agg [I a0.x, I a0.y], .agg [I a1.x, I a1.y], .agg [I a2.x, I a2.y], .agg [I a3.x, I a3.y]] (E0 []) = some (I r, E0 [], none) := by
  refine callL_wpG cx149 (ax := [.agg [I a0.x, I a0.y], .agg [I a1.x, I a1.y], .agg [I a2.x, I a2.y], .agg [I a3.x, I a3.y]]) rfl rfl ?_
  unfold r08_dot at h
  try dsimp only at h
  cases h
  simp only [retG, ↓askB_true, ↓askB_false, beq_self_eq_true, wz, Nat.reduceAdd, Nat.reduceSub, Nat.reduceMul, Nat.reduceBEq, Nat.reduceEqDiff, Nat.reduceLeDiff, Nat.reduceLT, reduceCtorEq, x149, x149B]

noncomputable def r08_dot_fam : Fam := famC prog cfg (famT r08_dot_fams) 149
theorem r08_dot_val {a0 : Pt} {a1 : Pt} {a2 : Pt} {a3 : Pt} {r : Int} (h : r08_dot a0 a1 a2 a3 = some r) : r08_dot_fam.val [.agg [I a0.x, I a0.y], .agg [I a1.x, I a1.y], .agg [I a2.x, I a2.y], .agg [I a3.x, I a3.y]] = some (.flat (I r)) := famC_flat (r08_dot_ok h) rfl rfl
def r08_dot_At (fams : List Fam) : Prop := ∀  {a0 : Pt} {a1 : Pt} {a2 : Pt} {a3 : Pt} {r : Int} {xs_ : List TV} {os os1 : List TO}, r08_dot a0 a1 a2 a3 = some r → argsT false (E0 os) xs_ = some ([.agg [I a0.x, I a0.y], .agg [I a1.x, I a1.y], .agg [I a2.x, I a2.y], .agg [I a3.x, I a3.y]], E0 os1) → callX prog cfg (famT fams) 149 xs_ (E0 os) = some (I r, E0 os1, none)
theorem r08_dot_goods : ∀ x, x ∈ r08_dot_fams → x.Good prog := goods0
theorem r08_dot_good : r08_dot_fam.Good prog := famC_good sound r08_dot_goods
/- 127: mapsheets/mapsheetsref08.On -/
noncomputable def r08_On_fams : List Fam := [r08_Near_fam, r08_cross_fam, r08_dot_fam]
noncomputable def r08_On (a0 : Pt) (a1 : Pt) (a2 : Pt) : Option (Bool) := ((r08_Near (([a0, a1, a2] : List Pt))).bind fun y1 => (if y1 = true then ((r08_cross a0 a1 a0 a2).bind fun y2 => (if y2 = 0 then ((r08_dot a0 a2 a1 a2).bind fun y3 => some (decide (y3 ≤ 0))) else some false)) else some false))
theorem r08_On_ok {a0 : Pt} {a1 : Pt} {a2 : Pt} {r : Bool} (h : r08_On a0 a1 a2 = some r) : callL prog cfg (famT r08_On_fams) 127 [.agg [I a0.x, I a0.y], .agg [I a1.x, I a1.y], .agg [I a2.x, I a2.y]] (E0 []) = some (B r, E0 [], none) := by
  refine callL_wpG cx127 (ax := [.agg [I a0.x, I a0.y], .agg [I a1.x, I a1.y], .agg [I a2.x, I a2.y]]) rfl rfl ?_
  unfold r08_On at h
  try dsimp only at h
  obtain ⟨y1, hy1, h⟩ := obind h
  have g1 : ∀ os, callX prog cfg (famT r08_On_fams) 66 [.r (.lst [[cI a0.x, cI a0.y], [cI a1.x, cI a1.y], [cI a2.x, cI a2.y]] (some 3))] (E0 os) = some (B y1, E0 os, none) := fun os => callX_fam rfl (famLook_hit rfl (r08_Near_val hy1))
  by_cases c1 : y1 = true
  · have bc1 : (y1) = true := id c1
    rw [if_pos c1] at h
    obtain ⟨y2, hy2, h⟩ := obind h
    have g2 : ∀ os, callX prog cfg (famT r08_On_fams) 68 [.agg [I a0.x, I a0.y], .agg [I a1.x, I a1.y], .agg [I a0.x, I a0.y], .agg [I a2.x, I a2.y]] (E0 os) = some (I y2, E0 os, none) := fun os => callX_fam rfl (famLook_skip rfl <| famLook_hit rfl (r08_cross_val hy2))
    by_cases c2 : y2 = 0
    · have bc2 : (y2 == 0) = true := beqT c2
      rw [if_pos c2] at h
      obtain ⟨y3, hy3, h⟩ := obind h
      have g3 : ∀ os, callX prog cfg (famT r08_On_fams) 149 [.agg [I a0.x, I a0.y], .agg [I a2.x, I a2.y], .agg [I a1.x, I a1.y], .agg [I a2.x, I a2.y]] (E0 os) = some (I y3, E0 os, none) := fun os => callX_fam rfl (famLook_skip rfl <| famLook_skip rfl <| famLook_hit rfl (r08_dot_val hy3))
      cases h
      simp only [retG, ↓askB_true, ↓askB_false, beq_self_eq_true, wz, Nat.reduceAdd, Nat.reduceSub, Nat.reduceMul, Nat.reduceBEq, Nat.reduceEqDiff, Nat.reduceLeDiff, Nat.reduceLT, reduceCtorEq, g1, bc1, g2, bc2, g3, x127, x127B]
    · have bc2 : (y2 == 0) = false := beqF c2
      rw [if_neg c2] at h
      cases h
      simp only [retG, ↓askB_true, ↓askB_false, beq_self_eq_true, wz, Nat.reduceAdd, Nat.reduceSub, Nat.reduceMul, Nat.reduceBEq, Nat.reduceEqDiff, Nat.reduceLeDiff, Nat.reduceLT, reduceCtorEq, g1, bc1, g2, bc2, x127, x127B]
  · have bc1 : (y1) = false := boolF c1
    rw [if_neg c1] at h
    cases h
    simp only [retG, ↓askB_true, ↓askB_false, beq_self_eq_true, wz, Nat.reduceAdd, Nat.reduceSub, Nat.reduceMul, Nat.reduceBEq, Nat.reduceEqDiff, Nat.reduceLeDiff, Nat.reduceLT, reduceCtorEq, g1, bc1, x127, x127B]

noncomputable def r08_On_fam : Fam := famC prog cfg (famT r08_On_fams) 127
theorem r08_On_val {a0 : Pt} {a1 : Pt} {a2 : Pt} {r : Bool} (h : r08_On a0 a1 a2 = some r) : r08_On_fam.val [.agg [I a0.x, I a0.y], .agg [I a1.x, I a1.y], .agg [I a2.x, I a2.y]] = some (.flat (B r)) := famC_flat (r08_On_ok h) rfl rfl
def r08_On_At (fams : List Fam) : Prop := ∀  {a0 : Pt} {a1 : Pt} {a2 : Pt} {r : Bool} {xs_ : List TV} {os os1 : List TO}, r08_On a0 a1 a2 = some r → argsT false (E0 os) xs_ = some ([.agg [I a0.x, I a0.y], .agg [I a1.x, I a1.y], .agg [I a2.x, I a2.y]], E0 os1) → callX prog cfg (famT fams) 127 xs_ (E0 os) = some (B r, E0 os1, none)
theorem r08_On_goods : ∀ x, x ∈ r08_On_fams → x.Good prog := (goodsC r08_Near_good (goodsC r08_cross_good (goodsC r08_dot_good goods0)))
theorem r08_On_good : r08_On_fam.Good prog := famC_good sound r08_On_goods
/- 89: mapsheets/mapsheetsref14.alone -/
noncomputable def r14_alone_fams : List Fam := [r08_On_fam]
def r14_alone_L0b (a0 : Plan) (a1 : r14_Segment) : Int → Option ((Int) ⊕ ((Unit) ⊕ (Unit))) := fun i3 => (if i3 < ((a0.nodes.length : Int)) then ((at_ a0.nodes i3).bind fun e3 => (if a1.I = 0 then (if a1.Arc.frm = e3.id then some (.inl (w64 (i3 + 1))) else (if a1.I = (w64 (a1.N - 1)) then (if a1.Arc.to = e3.id then some (.inl (w64 (i3 + 1))) else ((r08_On a1.A a1.B e3.pt).bind fun y9 => (if y9 = true then some (.inr (Sum.inl ())) else some (.inl (w64 (i3 + 1)))))) else ((r08_On a1.A a1.B e3.pt).bind fun y10 => (if y10 = true then some (.inr (Sum.inl ())) else some (.inl (w64 (i3 + 1))))))) else (if a1.I = (w64 (a1.N - 1)) then (if a1.Arc.to = e3.id then some (.inl (w64 (i3 + 1))) else ((r08_On a1.A a1.B e3.pt).bind fun y11 => (if y11 = true then some (.inr (Sum.inl ())) else some (.inl (w64 (i3 + 1)))))) else ((r08_On a1.A a1.B e3.pt).bind fun y12 => (if y12 = true then some (.inr (Sum.inl ())) else some (.inl (w64 (i3 + 1)))))))) else some (.inr (Sum.inr ())))
def r14_alone_L0R (a0 : Plan) (a1 : r14_Segment) : Int → Fr → TS → Prop := fun i3 f S => S = E0 [] ∧ f 2 = .lv [.r (.lst (List.map Node.e a0.nodes) none), .r (.lst (List.map Arc.e a0.arcs) none), .r (.lst (List.map int1 a0.faces) none)] ∧ f 3 = .lv [I a1.Arc.id, I a1.Arc.frm, I a1.Arc.to, .r (.lst (List.map Pt.e a1.Arc.via) none), I a1.Arc.left, I a1.Arc.right, I a1.I, I a1.N, I a1.A.x, I a1.A.y, I a1.B.x, I a1.B.y] ∧ f 5 = I i3
def r14_alone_L0E (a0 : Plan) (a1 : r14_Segment) : ((Unit) ⊕ (Unit)) → TX → Fr → TS → Prop
  | (Sum.inl ()), tx, f, S => tx = TX.ret ∧ S = E0 [] ∧ f 4 = B false
  | (Sum.inr ()), tx, f, S => tx = TX.exit 0 ∧ S = E0 [] ∧ f 3 = .lv [I a1.Arc.id, I a1.Arc.frm, I a1.Arc.to, .r (.lst (List.map Pt.e a1.Arc.via) none), I a1.Arc.left, I a1.Arc.right, I a1.I, I a1.N, I a1.A.x, I a1.A.y, I a1.B.x, I a1.B.y]
noncomputable def r14_alone_L0 (a0 : Plan) (a1 : r14_Segment) (s : Int) : Option ((Unit) ⊕ (Unit)) := loopO (r14_alone_L0b a0 a1) s
theorem r14_alone_L0_ok {a0 : Plan} {a1 : r14_Segment} {s : Int} {r : (Unit) ⊕ (Unit)} {Q : TX → Fr → TS → Prop} (h : r14_alone_L0 a0 a1 s = some r) {f : Fr} {S : TS} (hR : r14_alone_L0R a0 a1 s f S) (hQ : ∀ tx f S, r14_alone_L0E a0 a1 r tx f S → Q tx f S) : wp prog [2, 3, 6] (callX prog cfg (famT r14_alone_fams)) (.loop x89L0) Q f S := by
  refine wp_loopO x89L0.eq_1 ?_ h hR hQ
  clear hQ hR h
  intro s x f S h hR
  revert h hR; revert s; intro i3 h hR
  obtain ⟨rfl, f2, f3, f5⟩ := hR
  unfold r14_alone_L0b at h
  try dsimp only at h
  by_cases c23 : i3 < ((a0.nodes.length : Int))
  · have bc23 : (decide (i3 < ((a0.nodes.length : Int)))) = true := decT c23
    rw [if_pos c23] at h
    obtain ⟨e3, he3, h⟩ := obind h
    have i5 := indexSl_at (enc := Node.e) he3 (sz := 3) rfl
    by_cases c24 : a1.I = 0
    · have bc24 : (a1.I == 0) = true := beqT c24
      rw [if_pos c24] at h
      by_cases c25 : a1.Arc.frm = e3.id
      · have bc25 : (a1.Arc.frm == e3.id) = true := beqT c25
        rw [if_pos c25] at h
        cases h
        simp only [stepQ_normal, r14_alone_L0R, ↓askB_true, ↓askB_false, beq_self_eq_true, wz, Nat.reduceAdd, Nat.reduceSub, Nat.reduceMul, Nat.reduceBEq, Nat.reduceEqDiff, Nat.reduceLeDiff, Nat.reduceLT, reduceCtorEq, Arc.e, Node.e, Pt.e, int1, f2, f3, f5, bc23, i5, bc24, bc25]
      · have bc25 : (a1.Arc.frm == e3.id) = false := beqF c25
        rw [if_neg c25] at h
        by_cases c26 : a1.I = (w64 (a1.N - 1))
        · have bc26 : (a1.I == (w64 (a1.N - 1))) = true := beqT c26
          rw [if_pos c26] at h
          by_cases c27 : a1.Arc.to = e3.id
          · have bc27 : (a1.Arc.to == e3.id) = true := beqT c27
            rw [if_pos c27] at h
            cases h
            simp only [stepQ_normal, r14_alone_L0R, ↓askB_true, ↓askB_false, beq_self_eq_true, wz, Nat.reduceAdd, Nat.reduceSub, Nat.reduceMul, Nat.reduceBEq, Nat.reduceEqDiff, Nat.reduceLeDiff, Nat.reduceLT, reduceCtorEq, Arc.e, Node.e, Pt.e, int1, f2, f3, f5, bc23, i5, bc24, bc25, bc26, bc27]
          · have bc27 : (a1.Arc.to == e3.id) = false := beqF c27
            rw [if_neg c27] at h
            obtain ⟨y9, hy9, h⟩ := obind h
            have g9 : ∀ os, callX prog cfg (famT r14_alone_fams) 127 [.agg [I a1.A.x, I a1.A.y], .agg [I a1.B.x, I a1.B.y], .agg [I e3.pt.x, I e3.pt.y]] (E0 os) = some (B y9, E0 os, none) := fun os => callX_fam rfl (famLook_hit rfl (r08_On_val hy9))
            by_cases c28 : y9 = true
            · have bc28 : (y9) = true := id c28
              rw [if_pos c28] at h
              cases h
              simp only [stepQ_exit, stepQ_ret, r14_alone_L0E, ↓askB_true, ↓askB_false, beq_self_eq_true, wz, Nat.reduceAdd, Nat.reduceSub, Nat.reduceMul, Nat.reduceBEq, Nat.reduceEqDiff, Nat.reduceLeDiff, Nat.reduceLT, reduceCtorEq, Arc.e, Node.e, Pt.e, int1, f2, f3, f5, bc23, i5, bc24, bc25, bc26, bc27, g9, bc28]
            · have bc28 : (y9) = false := boolF c28
              rw [if_neg c28] at h
              cases h
              simp only [stepQ_normal, r14_alone_L0R, ↓askB_true, ↓askB_false, beq_self_eq_true, wz, Nat.reduceAdd, Nat.reduceSub, Nat.reduceMul, Nat.reduceBEq, Nat.reduceEqDiff, Nat.reduceLeDiff, Nat.reduceLT, reduceCtorEq, Arc.e, Node.e, Pt.e, int1, f2, f3, f5, bc23, i5, bc24, bc25, bc26, bc27, g9, bc28]
        · have bc26 : (a1.I == (w64 (a1.N - 1))) = false := beqF c26
          rw [if_neg c26] at h
          obtain ⟨y10, hy10, h⟩ := obind h
          have g10 : ∀ os, callX prog cfg (famT r14_alone_fams) 127 [.agg [I a1.A.x, I a1.A.y], .agg [I a1.B.x, I a1.B.y], .agg [I e3.pt.x, I e3.pt.y]] (E0 os) = some (B y10, E0 os, none) := fun os => callX_fam rfl (famLook_hit rfl (r08_On_val hy10))
          by_cases c29 : y10 = true
          · have bc29 : (y10) = true := id c29
            rw [if_pos c29] at h
            cases h
            simp only [stepQ_exit, stepQ_ret, r14_alone_L0E, ↓askB_true, ↓askB_false, beq_self_eq_true, wz, Nat.reduceAdd, Nat.reduceSub, Nat.reduceMul, Nat.reduceBEq, Nat.reduceEqDiff, Nat.reduceLeDiff, Nat.reduceLT, reduceCtorEq, Arc.e, Node.e, Pt.e, int1, f2, f3, f5, bc23, i5, bc24, bc25, bc26, g10, bc29]
          · have bc29 : (y10) = false := boolF c29
            rw [if_neg c29] at h
            cases h
            simp only [stepQ_normal, r14_alone_L0R, ↓askB_true, ↓askB_false, beq_self_eq_true, wz, Nat.reduceAdd, Nat.reduceSub, Nat.reduceMul, Nat.reduceBEq, Nat.reduceEqDiff, Nat.reduceLeDiff, Nat.reduceLT, reduceCtorEq, Arc.e, Node.e, Pt.e, int1, f2, f3, f5, bc23, i5, bc24, bc25, bc26, g10, bc29]
    · have bc24 : (a1.I == 0) = false := beqF c24
      rw [if_neg c24] at h
      by_cases c30 : a1.I = (w64 (a1.N - 1))
      · have bc30 : (a1.I == (w64 (a1.N - 1))) = true := beqT c30
        rw [if_pos c30] at h
        by_cases c31 : a1.Arc.to = e3.id
        · have bc31 : (a1.Arc.to == e3.id) = true := beqT c31
          rw [if_pos c31] at h
          cases h
          simp only [stepQ_normal, r14_alone_L0R, ↓askB_true, ↓askB_false, beq_self_eq_true, wz, Nat.reduceAdd, Nat.reduceSub, Nat.reduceMul, Nat.reduceBEq, Nat.reduceEqDiff, Nat.reduceLeDiff, Nat.reduceLT, reduceCtorEq, Arc.e, Node.e, Pt.e, int1, f2, f3, f5, bc23, i5, bc24, bc30, bc31]
        · have bc31 : (a1.Arc.to == e3.id) = false := beqF c31
          rw [if_neg c31] at h
          obtain ⟨y11, hy11, h⟩ := obind h
          have g11 : ∀ os, callX prog cfg (famT r14_alone_fams) 127 [.agg [I a1.A.x, I a1.A.y], .agg [I a1.B.x, I a1.B.y], .agg [I e3.pt.x, I e3.pt.y]] (E0 os) = some (B y11, E0 os, none) := fun os => callX_fam rfl (famLook_hit rfl (r08_On_val hy11))
          by_cases c32 : y11 = true
          · have bc32 : (y11) = true := id c32
            rw [if_pos c32] at h
            cases h
            simp only [stepQ_exit, stepQ_ret, r14_alone_L0E, ↓askB_true, ↓askB_false, beq_self_eq_true, wz, Nat.reduceAdd, Nat.reduceSub, Nat.reduceMul, Nat.reduceBEq, Nat.reduceEqDiff, Nat.reduceLeDiff, Nat.reduceLT, reduceCtorEq, Arc.e, Node.e, Pt.e, int1, f2, f3, f5, bc23, i5, bc24, bc30, bc31, g11, bc32]
          · have bc32 : (y11) = false := boolF c32
            rw [if_neg c32] at h
            cases h
            simp only [stepQ_normal, r14_alone_L0R, ↓askB_true, ↓askB_false, beq_self_eq_true, wz, Nat.reduceAdd, Nat.reduceSub, Nat.reduceMul, Nat.reduceBEq, Nat.reduceEqDiff, Nat.reduceLeDiff, Nat.reduceLT, reduceCtorEq, Arc.e, Node.e, Pt.e, int1, f2, f3, f5, bc23, i5, bc24, bc30, bc31, g11, bc32]
      · have bc30 : (a1.I == (w64 (a1.N - 1))) = false := beqF c30
        rw [if_neg c30] at h
        obtain ⟨y12, hy12, h⟩ := obind h
        have g12 : ∀ os, callX prog cfg (famT r14_alone_fams) 127 [.agg [I a1.A.x, I a1.A.y], .agg [I a1.B.x, I a1.B.y], .agg [I e3.pt.x, I e3.pt.y]] (E0 os) = some (B y12, E0 os, none) := fun os => callX_fam rfl (famLook_hit rfl (r08_On_val hy12))
        by_cases c33 : y12 = true
        · have bc33 : (y12) = true := id c33
          rw [if_pos c33] at h
          cases h
          simp only [stepQ_exit, stepQ_ret, r14_alone_L0E, ↓askB_true, ↓askB_false, beq_self_eq_true, wz, Nat.reduceAdd, Nat.reduceSub, Nat.reduceMul, Nat.reduceBEq, Nat.reduceEqDiff, Nat.reduceLeDiff, Nat.reduceLT, reduceCtorEq, Arc.e, Node.e, Pt.e, int1, f2, f3, f5, bc23, i5, bc24, bc30, g12, bc33]
        · have bc33 : (y12) = false := boolF c33
          rw [if_neg c33] at h
          cases h
          simp only [stepQ_normal, r14_alone_L0R, ↓askB_true, ↓askB_false, beq_self_eq_true, wz, Nat.reduceAdd, Nat.reduceSub, Nat.reduceMul, Nat.reduceBEq, Nat.reduceEqDiff, Nat.reduceLeDiff, Nat.reduceLT, reduceCtorEq, Arc.e, Node.e, Pt.e, int1, f2, f3, f5, bc23, i5, bc24, bc30, g12, bc33]
  · have bc23 : (decide (i3 < ((a0.nodes.length : Int)))) = false := decF c23
    rw [if_neg c23] at h
    cases h
    simp only [stepQ_exit, stepQ_ret, r14_alone_L0E, ↓askB_true, ↓askB_false, beq_self_eq_true, wz, Nat.reduceAdd, Nat.reduceSub, Nat.reduceMul, Nat.reduceBEq, Nat.reduceEqDiff, Nat.reduceLeDiff, Nat.reduceLT, reduceCtorEq, Arc.e, Node.e, Pt.e, int1, f2, f3, f5, bc23]

noncomputable def r14_alone (a0 : Plan) (a1 : r14_Segment) : Option (Bool) := ((r14_alone_L0 a0 a1 0).bind (fun x1 => sumK x1 (fun _ => some false) (fun _ => (if a1.A = a1.B then some false else (if ¬ a1.Arc.frm = a1.Arc.to then some true else some (decide (a1.N ≥ 3)))))))
theorem r14_alone_ok {a0 : Plan} {a1 : r14_Segment} {r : Bool} (h : r14_alone a0 a1 = some r) : callL prog cfg (famT r14_alone_fams) 89 [.agg [.r (.lst (List.map Node.e a0.nodes) none), .r (.lst (List.map Arc.e a0.arcs) none), .r (.lst (List.map int1 a0.faces) none)], .agg [I a1.Arc.id, I a1.Arc.frm, I a1.Arc.to, .r (.lst (List.map Pt.e a1.Arc.via) none), I a1.Arc.left, I a1.Arc.right, I a1.I, I a1.N, I a1.A.x, I a1.A.y, I a1.B.x, I a1.B.y]] (E0 []) = some (B r, E0 [], none) := by
  refine callL_wpG cx89 (ax := [.agg [.r (.lst (List.map Node.e a0.nodes) none), .r (.lst (List.map Arc.e a0.arcs) none), .r (.lst (List.map int1 a0.faces) none)], .agg [I a1.Arc.id, I a1.Arc.frm, I a1.Arc.to, .r (.lst (List.map Pt.e a1.Arc.via) none), I a1.Arc.left, I a1.Arc.right, I a1.I, I a1.N, I a1.A.x, I a1.A.y, I a1.B.x, I a1.B.y]]) rfl rfl ?_
  unfold r14_alone at h
  try dsimp only at h
  obtain ⟨x1, hx1, h⟩ := obind h
  simp only [↓askB_true, ↓askB_false, beq_self_eq_true, wz, Nat.reduceAdd, Nat.reduceSub, Nat.reduceMul, Nat.reduceBEq, Nat.reduceEqDiff, Nat.reduceLeDiff, Nat.reduceLT, reduceCtorEq, Arc.e, Node.e, Pt.e, int1, x89, x89B]
  refine r14_alone_L0_ok hx1 ?_ ?_
  · simp only [r14_alone_L0R, ↓askB_true, ↓askB_false, beq_self_eq_true, wz, Nat.reduceAdd, Nat.reduceSub, Nat.reduceMul, Nat.reduceBEq, Nat.reduceEqDiff, Nat.reduceLeDiff, Nat.reduceLT, reduceCtorEq, Arc.e, Node.e, Pt.e, int1, x89, x89B]
  intro tx f S hE
  rcases x1 with _u | _u
  · try dsimp only [sumK] at h
    obtain ⟨rfl, rfl, f4⟩ := hE
    cases h
    simp only [retG, ↓askB_true, ↓askB_false, beq_self_eq_true, wz, Nat.reduceAdd, Nat.reduceSub, Nat.reduceMul, Nat.reduceBEq, Nat.reduceEqDiff, Nat.reduceLeDiff, Nat.reduceLT, reduceCtorEq, Arc.e, Node.e, Pt.e, int1, f4]
  · try dsimp only [sumK] at h
    obtain ⟨rfl, rfl, f3⟩ := hE
    have q1 := Pt.clV a1.A a1.B
    simp only [Pt.v, Pt.e, List.map_cons, List.map_nil] at q1
    by_cases c34 : a1.A = a1.B
    · have bc34 : (Pt.eqb a1.A a1.B) = true := Pt.eqbT c34
      rw [if_pos c34] at h
      cases h
      simp only [retG, ↓askB_true, ↓askB_false, beq_self_eq_true, wz, Nat.reduceAdd, Nat.reduceSub, Nat.reduceMul, Nat.reduceBEq, Nat.reduceEqDiff, Nat.reduceLeDiff, Nat.reduceLT, reduceCtorEq, Arc.e, Node.e, Pt.e, int1, f3, q1, bc34]
    · have bc34 : (Pt.eqb a1.A a1.B) = false := Pt.eqbF c34
      rw [if_neg c34] at h
      by_cases c35 : ¬ a1.Arc.frm = a1.Arc.to
      · have bc35 : (a1.Arc.frm != a1.Arc.to) = true := bneT c35
        rw [if_pos c35] at h
        cases h
        simp only [retG, ↓askB_true, ↓askB_false, beq_self_eq_true, wz, Nat.reduceAdd, Nat.reduceSub, Nat.reduceMul, Nat.reduceBEq, Nat.reduceEqDiff, Nat.reduceLeDiff, Nat.reduceLT, reduceCtorEq, Arc.e, Node.e, Pt.e, int1, f3, q1, bc34, bc35]
      · have bc35 : (a1.Arc.frm != a1.Arc.to) = false := bneF_ c35
        rw [if_neg c35] at h
        cases h
        simp only [retG, ↓askB_true, ↓askB_false, beq_self_eq_true, wz, Nat.reduceAdd, Nat.reduceSub, Nat.reduceMul, Nat.reduceBEq, Nat.reduceEqDiff, Nat.reduceLeDiff, Nat.reduceLT, reduceCtorEq, Arc.e, Node.e, Pt.e, int1, f3, q1, bc34, bc35]

noncomputable def r14_alone_fam : Fam := famC prog cfg (famT r14_alone_fams) 89
theorem r14_alone_val {a0 : Plan} {a1 : r14_Segment} {r : Bool} (h : r14_alone a0 a1 = some r) : r14_alone_fam.val [.agg [.r (.lst (List.map Node.e a0.nodes) none), .r (.lst (List.map Arc.e a0.arcs) none), .r (.lst (List.map int1 a0.faces) none)], .agg [I a1.Arc.id, I a1.Arc.frm, I a1.Arc.to, .r (.lst (List.map Pt.e a1.Arc.via) none), I a1.Arc.left, I a1.Arc.right, I a1.I, I a1.N, I a1.A.x, I a1.A.y, I a1.B.x, I a1.B.y]] = some (.flat (B r)) := famC_flat (r14_alone_ok h) rfl rfl
def r14_alone_At (fams : List Fam) : Prop := ∀  {a0 : Plan} {a1 : r14_Segment} {r : Bool} {xs_ : List TV} {os os1 : List TO}, r14_alone a0 a1 = some r → argsT false (E0 os) xs_ = some ([.agg [.r (.lst (List.map Node.e a0.nodes) none), .r (.lst (List.map Arc.e a0.arcs) none), .r (.lst (List.map int1 a0.faces) none)], .agg [I a1.Arc.id, I a1.Arc.frm, I a1.Arc.to, .r (.lst (List.map Pt.e a1.Arc.via) none), I a1.Arc.left, I a1.Arc.right, I a1.I, I a1.N, I a1.A.x, I a1.A.y, I a1.B.x, I a1.B.y]], E0 os1) → callX prog cfg (famT fams) 89 xs_ (E0 os) = some (B r, E0 os1, none)
theorem r14_alone_goods : ∀ x, x ∈ r14_alone_fams → x.Good prog := (goodsC r08_On_good goods0)
theorem r14_alone_good : r14_alone_fam.Good prog := famC_good sound r14_alone_goods
/- 165: mapsheets/mapsheetsref08.first -/
noncomputable def r08_first_fams : List Fam := []
noncomputable def r08_first (a0 : Pt) (a1 : Pt) : Option (Bool) := (if a0.x < a1.x then some true else (if a0.x = a1.x then some (decide (a0.y < a1.y)) else some false))
theorem r08_first_ok {a0 : Pt} {a1 : Pt} {r : Bool} (h : r08_first a0 a1 = some r) : callL prog cfg (famT r08_first_fams) 165 [.agg [I a0.x, I a0.y], .agg [I a1.x, I a1.y]] (E0 []) = some (B r, E0 [], none) := by
  refine callL_wpG cx165 (ax := [.agg [I a0.x, I a0.y], .agg [I a1.x, I a1.y]]) rfl rfl ?_
  unfold r08_first at h
  try dsimp only at h
  by_cases c1 : a0.x < a1.x
  · have bc1 : (decide (a0.x < a1.x)) = true := decT c1
    rw [if_pos c1] at h
    cases h
    simp only [retG, ↓askB_true, ↓askB_false, beq_self_eq_true, wz, Nat.reduceAdd, Nat.reduceSub, Nat.reduceMul, Nat.reduceBEq, Nat.reduceEqDiff, Nat.reduceLeDiff, Nat.reduceLT, reduceCtorEq, bc1, x165, x165B]
  · have bc1 : (decide (a0.x < a1.x)) = false := decF c1
    rw [if_neg c1] at h
    by_cases c2 : a0.x = a1.x
    · have bc2 : (a0.x == a1.x) = true := beqT c2
      rw [if_pos c2] at h
      cases h
      simp only [retG, ↓askB_true, ↓askB_false, beq_self_eq_true, wz, Nat.reduceAdd, Nat.reduceSub, Nat.reduceMul, Nat.reduceBEq, Nat.reduceEqDiff, Nat.reduceLeDiff, Nat.reduceLT, reduceCtorEq, bc1, bc2, x165, x165B]
    · have bc2 : (a0.x == a1.x) = false := beqF c2
      rw [if_neg c2] at h
      cases h
      simp only [retG, ↓askB_true, ↓askB_false, beq_self_eq_true, wz, Nat.reduceAdd, Nat.reduceSub, Nat.reduceMul, Nat.reduceBEq, Nat.reduceEqDiff, Nat.reduceLeDiff, Nat.reduceLT, reduceCtorEq, bc1, bc2, x165, x165B]

noncomputable def r08_first_fam : Fam := famC prog cfg (famT r08_first_fams) 165
theorem r08_first_val {a0 : Pt} {a1 : Pt} {r : Bool} (h : r08_first a0 a1 = some r) : r08_first_fam.val [.agg [I a0.x, I a0.y], .agg [I a1.x, I a1.y]] = some (.flat (B r)) := famC_flat (r08_first_ok h) rfl rfl
def r08_first_At (fams : List Fam) : Prop := ∀  {a0 : Pt} {a1 : Pt} {r : Bool} {xs_ : List TV} {os os1 : List TO}, r08_first a0 a1 = some r → argsT false (E0 os) xs_ = some ([.agg [I a0.x, I a0.y], .agg [I a1.x, I a1.y]], E0 os1) → callX prog cfg (famT fams) 165 xs_ (E0 os) = some (B r, E0 os1, none)
theorem r08_first_goods : ∀ x, x ∈ r08_first_fams → x.Good prog := goods0
theorem r08_first_good : r08_first_fam.Good prog := famC_good sound r08_first_goods
/- 150: mapsheets/mapsheetsref08.shared -/
noncomputable def r08_shared_fams : List Fam := [r08_first_fam]
noncomputable def r08_shared (a0 : Pt) (a1 : Pt) (a2 : Pt) (a3 : Pt) : Option (Int) := ((r08_first a1 a0).bind fun y1 => (if y1 = true then ((r08_first a3 a2).bind fun y2 => (if y2 = true then ((r08_first a1 a3).bind fun y3 => (if y3 = true then ((r08_first a2 a0).bind fun y4 => (if y4 = true then (if a3 = a2 then some 1 else some 2) else (if a3 = a0 then some 1 else ((r08_first a3 a0).bind fun y5 => (if y5 = true then some 2 else some 0))))) else ((r08_first a2 a0).bind fun y6 => (if y6 = true then (if a1 = a2 then some 1 else ((r08_first a1 a2).bind fun y7 => (if y7 = true then some 2 else some 0))) else (if a1 = a0 then some 1 else some 2))))) else ((r08_first a1 a2).bind fun y8 => (if y8 = true then ((r08_first a3 a0).bind fun y9 => (if y9 = true then (if a2 = a3 then some 1 else ((r08_first a2 a3).bind fun y10 => (if y10 = true then some 2 else some 0))) else (if a2 = a0 then some 1 else ((r08_first a2 a0).bind fun y11 => (if y11 = true then some 2 else some 0))))) else ((r08_first a3 a0).bind fun y12 => (if y12 = true then (if a1 = a3 then some 1 else ((r08_first a1 a3).bind fun y13 => (if y13 = true then some 2 else some 0))) else (if a1 = a0 then some 1 else some 2))))))) else ((r08_first a3 a2).bind fun y14 => (if y14 = true then ((r08_first a0 a3).bind fun y15 => (if y15 = true then ((r08_first a2 a1).bind fun y16 => (if y16 = true then (if a3 = a2 then some 1 else some 2) else (if a3 = a1 then some 1 else ((r08_first a3 a1).bind fun y17 => (if y17 = true then some 2 else some 0))))) else ((r08_first a2 a1).bind fun y18 => (if y18 = true then (if a0 = a2 then some 1 else ((r08_first a0 a2).bind fun y19 => (if y19 = true then some 2 else some 0))) else (if a0 = a1 then some 1 else ((r08_first a0 a1).bind fun y20 => (if y20 = true then some 2 else some 0))))))) else ((r08_first a0 a2).bind fun y21 => (if y21 = true then ((r08_first a3 a1).bind fun y22 => (if y22 = true then (if a2 = a3 then some 1 else ((r08_first a2 a3).bind fun y23 => (if y23 = true then some 2 else some 0))) else (if a2 = a1 then some 1 else ((r08_first a2 a1).bind fun y24 => (if y24 = true then some 2 else some 0))))) else ((r08_first a3 a1).bind fun y25 => (if y25 = true then (if a0 = a3 then some 1 else ((r08_first a0 a3).bind fun y26 => (if y26 = true then some 2 else some 0))) else (if a0 = a1 then some 1 else ((r08_first a0 a1).bind fun y27 => (if y27 = true then some 2 else some 0)))))))))))
theorem r08_shared_ok {a0 : Pt} {a1 : Pt} {a2 : Pt} {a3 : Pt} {r : Int} (h : r08_shared a0 a1 a2 a3 = some r) : callL prog cfg (famT r08_shared_fams) 150 [.agg [I a0.x, I a0.y], .agg [I a1.x, I a1.y], .agg [I a2.x, I a2.y], .agg [I a3.x, I a3.y]] (E0 []) = some (I r, E0 [], none) := by
  refine callL_wpG cx150 (ax := [.agg [I a0.x, I a0.y], .agg [I a1.x, I a1.y], .agg [I a2.x, I a2.y], .agg [I a3.x, I a3.y]]) rfl rfl ?_
  unfold r08_shared at h
  try dsimp only at h
  obtain ⟨y1, hy1, h⟩ := obind h
  have g1 : ∀ os, callX prog cfg (famT r08_shared_fams) 165 [.agg [I a1.x, I a1.y], .agg [I a0.x, I a0.y]] (E0 os) = some (B y1, E0 os, none) := fun os => callX_fam rfl (famLook_hit rfl (r08_first_val hy1))
  by_cases c1 : y1 = true
  · have bc1 : (y1) = true := id c1
    rw [if_pos c1] at h
    obtain ⟨y2, hy2, h⟩ := obind h
    have g2 : ∀ os, callX prog cfg (famT r08_shared_fams) 165 [.agg [I a3.x, I a3.y], .agg [I a2.x, I a2.y]] (E0 os) = some (B y2, E0 os, none) := fun os => callX_fam rfl (famLook_hit rfl (r08_first_val hy2))
    by_cases c2 : y2 = true
    · have bc2 : (y2) = true := id c2
      rw [if_pos c2] at h
      obtain ⟨y3, hy3, h⟩ := obind h
      have g3 : ∀ os, callX prog cfg (famT r08_shared_fams) 165 [.agg [I a1.x, I a1.y], .agg [I a3.x, I a3.y]] (E0 os) = some (B y3, E0 os, none) := fun os => callX_fam rfl (famLook_hit rfl (r08_first_val hy3))
      by_cases c3 : y3 = true
      · have bc3 : (y3) = true := id c3
        rw [if_pos c3] at h
        obtain ⟨y4, hy4, h⟩ := obind h
        have g4 : ∀ os, callX prog cfg (famT r08_shared_fams) 165 [.agg [I a2.x, I a2.y], .agg [I a0.x, I a0.y]] (E0 os) = some (B y4, E0 os, none) := fun os => callX_fam rfl (famLook_hit rfl (r08_first_val hy4))
        by_cases c4 : y4 = true
        · have bc4 : (y4) = true := id c4
          rw [if_pos c4] at h
          have q1 := Pt.clV a3 a2
          simp only [Pt.v, Pt.e, List.map_cons, List.map_nil] at q1
          by_cases c5 : a3 = a2
          · have bc5 : (Pt.eqb a3 a2) = true := Pt.eqbT c5
            rw [if_pos c5] at h
            cases h
            simp only [retG, ↓askB_true, ↓askB_false, beq_self_eq_true, wz, Nat.reduceAdd, Nat.reduceSub, Nat.reduceMul, Nat.reduceBEq, Nat.reduceEqDiff, Nat.reduceLeDiff, Nat.reduceLT, reduceCtorEq, g1, bc1, g2, bc2, g3, bc3, g4, bc4, q1, bc5, x150, x150B]
          · have bc5 : (Pt.eqb a3 a2) = false := Pt.eqbF c5
            rw [if_neg c5] at h
            cases h
            simp only [retG, ↓askB_true, ↓askB_false, beq_self_eq_true, wz, Nat.reduceAdd, Nat.reduceSub, Nat.reduceMul, Nat.reduceBEq, Nat.reduceEqDiff, Nat.reduceLeDiff, Nat.reduceLT, reduceCtorEq, g1, bc1, g2, bc2, g3, bc3, g4, bc4, q1, bc5, x150, x150B]
        · have bc4 : (y4) = false := boolF c4
          rw [if_neg c4] at h
          have q2 := Pt.clV a3 a0
          simp only [Pt.v, Pt.e, List.map_cons, List.map_nil] at q2
          by_cases c6 : a3 = a0
          · have bc6 : (Pt.eqb a3 a0) = true := Pt.eqbT c6
            rw [if_pos c6] at h
            cases h
            simp only [retG, ↓askB_true, ↓askB_false, beq_self_eq_true, wz, Nat.reduceAdd, Nat.reduceSub, Nat.reduceMul, Nat.reduceBEq, Nat.reduceEqDiff, Nat.reduceLeDiff, Nat.reduceLT, reduceCtorEq, g1, bc1, g2, bc2, g3, bc3, g4, bc4, q2, bc6, x150, x150B]
          · have bc6 : (Pt.eqb a3 a0) = false := Pt.eqbF c6
            rw [if_neg c6] at h
            obtain ⟨y5, hy5, h⟩ := obind h
            have g6 : ∀ os, callX prog cfg (famT r08_shared_fams) 165 [.agg [I a3.x, I a3.y], .agg [I a0.x, I a0.y]] (E0 os) = some (B y5, E0 os, none) := fun os => callX_fam rfl (famLook_hit rfl (r08_first_val hy5))
            by_cases c7 : y5 = true
            · have bc7 : (y5) = true := id c7
              rw [if_pos c7] at h
              cases h
              simp only [retG, ↓askB_true, ↓askB_false, beq_self_eq_true, wz, Nat.reduceAdd, Nat.reduceSub, Nat.reduceMul, Nat.reduceBEq, Nat.reduceEqDiff, Nat.reduceLeDiff, Nat.reduceLT, reduceCtorEq, g1, bc1, g2, bc2, g3, bc3, g4, bc4, q2, bc6, g6, bc7, x150, x150B]
            · have bc7 : (y5) = false := boolF c7
              rw [if_neg c7] at h
              cases h
              simp only [retG, ↓askB_true, ↓askB_false, beq_self_eq_true, wz, Nat.reduceAdd, Nat.reduceSub, Nat.reduceMul, Nat.reduceBEq, Nat.reduceEqDiff, Nat.reduceLeDiff, Nat.reduceLT, reduceCtorEq, g1, bc1, g2, bc2, g3, bc3, g4, bc4, q2, bc6, g6, bc7, x150, x150B]
      · have bc3 : (y3) = false := boolF c3
        rw [if_neg c3] at h
        obtain ⟨y6, hy6, h⟩ := obind h
        have g7 : ∀ os, callX prog cfg (famT r08_shared_fams) 165 [.agg [I a2.x, I a2.y], .agg [I a0.x, I a0.y]] (E0 os) = some (B y6, E0 os, none) := fun os => callX_fam rfl (famLook_hit rfl (r08_first_val hy6))
        by_cases c8 : y6 = true
        · have bc8 : (y6) = true := id c8
          rw [if_pos c8] at h
          have q3 := Pt.clV a1 a2
          simp only [Pt.v, Pt.e, List.map_cons, List.map_nil] at q3
          by_cases c9 : a1 = a2
          · have bc9 : (Pt.eqb a1 a2) = true := Pt.eqbT c9
            rw [if_pos c9] at h
            cases h
            simp only [retG, ↓askB_true, ↓askB_false, beq_self_eq_true, wz, Nat.reduceAdd, Nat.reduceSub, Nat.reduceMul, Nat.reduceBEq, Nat.reduceEqDiff, Nat.reduceLeDiff, Nat.reduceLT, reduceCtorEq, g1, bc1, g2, bc2, g3, bc3, g7, bc8, q3, bc9, x150, x150B]
          · have bc9 : (Pt.eqb a1 a2) = false := Pt.eqbF c9
            rw [if_neg c9] at h
            obtain ⟨y7, hy7, h⟩ := obind h
            have g8 : ∀ os, callX prog cfg (famT r08_shared_fams) 165 [.agg [I a1.x, I a1.y], .agg [I a2.x, I a2.y]] (E0 os) = some (B y7, E0 os, none) := fun os => callX_fam rfl (famLook_hit rfl (r08_first_val hy7))
            by_cases c10 : y7 = true
            · have bc10 : (y7) = true := id c10
              rw [if_pos c10] at h
              cases h
              simp only [retG, ↓askB_true, ↓askB_false, beq_self_eq_true, wz, Nat.reduceAdd, Nat.reduceSub, Nat.reduceMul, Nat.reduceBEq, Nat.reduceEqDiff, Nat.reduceLeDiff, Nat.reduceLT, reduceCtorEq, g1, bc1, g2, bc2, g3, bc3, g7, bc8, q3, bc9, g8, bc10, x150, x150B]
            · have bc10 : (y7) = false := boolF c10
              rw [if_neg c10] at h
              cases h
              simp only [retG, ↓askB_true, ↓askB_false, beq_self_eq_true, wz, Nat.reduceAdd, Nat.reduceSub, Nat.reduceMul, Nat.reduceBEq, Nat.reduceEqDiff, Nat.reduceLeDiff, Nat.reduceLT, reduceCtorEq, g1, bc1, g2, bc2, g3, bc3, g7, bc8, q3, bc9, g8, bc10, x150, x150B]
        · have bc8 : (y6) = false := boolF c8
          rw [if_neg c8] at h
          have q4 := Pt.clV a1 a0
          simp only [Pt.v, Pt.e, List.map_cons, List.map_nil] at q4
          by_cases c11 : a1 = a0
          · have bc11 : (Pt.eqb a1 a0) = true := Pt.eqbT c11
            rw [if_pos c11] at h
            cases h
            simp only [retG, ↓askB_true, ↓askB_false, beq_self_eq_true, wz, Nat.reduceAdd, Nat.reduceSub, Nat.reduceMul, Nat.reduceBEq, Nat.reduceEqDiff, Nat.reduceLeDiff, Nat.reduceLT, reduceCtorEq, g1, bc1, g2, bc2, g3, bc3, g7, bc8, q4, bc11, x150, x150B]
          · have bc11 : (Pt.eqb a1 a0) = false := Pt.eqbF c11
            rw [if_neg c11] at h
            cases h
            simp only [retG, ↓askB_true, ↓askB_false, beq_self_eq_true, wz, Nat.reduceAdd, Nat.reduceSub, Nat.reduceMul, Nat.reduceBEq, Nat.reduceEqDiff, Nat.reduceLeDiff, Nat.reduceLT, reduceCtorEq, g1, bc1, g2, bc2, g3, bc3, g7, bc8, q4, bc11, x150, x150B]
    · have bc2 : (y2) = false := boolF c2
      rw [if_neg c2] at h
      obtain ⟨y8, hy8, h⟩ := obind h
      have g10 : ∀ os, callX prog cfg (famT r08_shared_fams) 165 [.agg [I a1.x, I a1.y], .agg [I a2.x, I a2.y]] (E0 os) = some (B y8, E0 os, none) := fun os => callX_fam rfl (famLook_hit rfl (r08_first_val hy8))
      by_cases c12 : y8 = true
      · have bc12 : (y8) = true := id c12
        rw [if_pos c12] at h
        obtain ⟨y9, hy9, h⟩ := obind h
        have g11 : ∀ os, callX prog cfg (famT r08_shared_fams) 165 [.agg [I a3.x, I a3.y], .agg [I a0.x, I a0.y]] (E0 os) = some (B y9, E0 os, none) := fun os => callX_fam rfl (famLook_hit rfl (r08_first_val hy9))
        by_cases c13 : y9 = true
        · have bc13 : (y9) = true := id c13
          rw [if_pos c13] at h
          have q5 := Pt.clV a2 a3
          simp only [Pt.v, Pt.e, List.map_cons, List.map_nil] at q5
          by_cases c14 : a2 = a3
          · have bc14 : (Pt.eqb a2 a3) = true := Pt.eqbT c14
            rw [if_pos c14] at h
            cases h
            simp only [retG, ↓askB_true, ↓askB_false, beq_self_eq_true, wz, Nat.reduceAdd, Nat.reduceSub, Nat.reduceMul, Nat.reduceBEq, Nat.reduceEqDiff, Nat.reduceLeDiff, Nat.reduceLT, reduceCtorEq, g1, bc1, g2, bc2, g10, bc12, g11, bc13, q5, bc14, x150, x150B]
          · have bc14 : (Pt.eqb a2 a3) = false := Pt.eqbF c14
            rw [if_neg c14] at h
            obtain ⟨y10, hy10, h⟩ := obind h
            have g12 : ∀ os, callX prog cfg (famT r08_shared_fams) 165 [.agg [I a2.x, I a2.y], .agg [I a3.x, I a3.y]] (E0 os) = some (B y10, E0 os, none) := fun os => callX_fam rfl (famLook_hit rfl (r08_first_val hy10))
            by_cases c15 : y10 = true
            · have bc15 : (y10) = true := id c15
              rw [if_pos c15] at h
              cases h
              simp only [retG, ↓askB_true, ↓askB_false, beq_self_eq_true, wz, Nat.reduceAdd, Nat.reduceSub, Nat.reduceMul, Nat.reduceBEq, Nat.reduceEqDiff, Nat.reduceLeDiff, Nat.reduceLT, reduceCtorEq, g1, bc1, g2, bc2, g10, bc12, g11, bc13, q5, bc14, g12, bc15, x150, x150B]
            · have bc15 : (y10) = false := boolF c15
              rw [if_neg c15] at h
              cases h
              simp only [retG, ↓askB_true, ↓askB_false, beq_self_eq_true, wz, Nat.reduceAdd, Nat.reduceSub, Nat.reduceMul, Nat.reduceBEq, Nat.reduceEqDiff, Nat.reduceLeDiff, Nat.reduceLT, reduceCtorEq, g1, bc1, g2, bc2, g10, bc12, g11, bc13, q5, bc14, g12, bc15, x150, x150B]
        · have bc13 : (y9) = false := boolF c13
          rw [if_neg c13] at h
          have q6 := Pt.clV a2 a0
          simp only [Pt.v, Pt.e, List.map_cons, List.map_nil] at q6
          by_cases c16 : a2 = a0
          · have bc16 : (Pt.eqb a2 a0) = true := Pt.eqbT c16
            rw [if_pos c16] at h
            cases h
            simp only [retG, ↓askB_true, ↓askB_false, beq_self_eq_true, wz, Nat.reduceAdd, Nat.reduceSub, Nat.reduceMul, Nat.reduceBEq, Nat.reduceEqDiff, Nat.reduceLeDiff, Nat.reduceLT, reduceCtorEq, g1, bc1, g2, bc2, g10, bc12, g11, bc13, q6, bc16, x150, x150B]
          · have bc16 : (Pt.eqb a2 a0) = false := Pt.eqbF c16
            rw [if_neg c16] at h
            obtain ⟨y11, hy11, h⟩ := obind h
            have g13 : ∀ os, callX prog cfg (famT r08_shared_fams) 165 [.agg [I a2.x, I a2.y], .agg [I a0.x, I a0.y]] (E0 os) = some (B y11, E0 os, none) := fun os => callX_fam rfl (famLook_hit rfl (r08_first_val hy11))
            by_cases c17 : y11 = true
            · have bc17 : (y11) = true := id c17
              rw [if_pos c17] at h
              cases h
              simp only [retG, ↓askB_true, ↓askB_false, beq_self_eq_true, wz, Nat.reduceAdd, Nat.reduceSub, Nat.reduceMul, Nat.reduceBEq, Nat.reduceEqDiff, Nat.reduceLeDiff, Nat.reduceLT, reduceCtorEq, g1, bc1, g2, bc2, g10, bc12, g11, bc13, q6, bc16, g13, bc17, x150, x150B]
            · have bc17 : (y11) = false := boolF c17
              rw [if_neg c17] at h
              cases h
              simp only [retG, ↓askB_true, ↓askB_false, beq_self_eq_true, wz, Nat.reduceAdd, Nat.reduceSub, Nat.reduceMul, Nat.reduceBEq, Nat.reduceEqDiff, Nat.reduceLeDiff, Nat.reduceLT, reduceCtorEq, g1, bc1, g2, bc2, g10, bc12, g11, bc13, q6, bc16, g13, bc17, x150, x150B]
      · have bc12 : (y8) = false := boolF c12
        rw [if_neg c12] at h
        obtain ⟨y12, hy12, h⟩ := obind h
        have g14 : ∀ os, callX prog cfg (famT r08_shared_fams) 165 [.agg [I a3.x, I a3.y], .agg [I a0.x, I a0.y]] (E0 os) = some (B y12, E0 os, none) := fun os => callX_fam rfl (famLook_hit rfl (r08_first_val hy12))
        by_cases c18 : y12 = true
        · have bc18 : (y12) = true := id c18
          rw [if_pos c18] at h
          have q7 := Pt.clV a1 a3
          simp only [Pt.v, Pt.e, List.map_cons, List.map_nil] at q7
          by_cases c19 : a1 = a3
          · have bc19 : (Pt.eqb a1 a3) = true := Pt.eqbT c19
            rw [if_pos c19] at h
            cases h
            simp only [retG, ↓askB_true, ↓askB_false, beq_self_eq_true, wz, Nat.reduceAdd, Nat.reduceSub, Nat.reduceMul, Nat.reduceBEq, Nat.reduceEqDiff, Nat.reduceLeDiff, Nat.reduceLT, reduceCtorEq, g1, bc1, g2, bc2, g10, bc12, g14, bc18, q7, bc19, x150, x150B]
          · have bc19 : (Pt.eqb a1 a3) = false := Pt.eqbF c19
            rw [if_neg c19] at h
            obtain ⟨y13, hy13, h⟩ := obind h
            have g15 : ∀ os, callX prog cfg (famT r08_shared_fams) 165 [.agg [I a1.x, I a1.y], .agg [I a3.x, I a3.y]] (E0 os) = some (B y13, E0 os, none) := fun os => callX_fam rfl (famLook_hit rfl (r08_first_val hy13))
            by_cases c20 : y13 = true
            · have bc20 : (y13) = true := id c20
              rw [if_pos c20] at h
              cases h
              simp only [retG, ↓askB_true, ↓askB_false, beq_self_eq_true, wz, Nat.reduceAdd, Nat.reduceSub, Nat.reduceMul, Nat.reduceBEq, Nat.reduceEqDiff, Nat.reduceLeDiff, Nat.reduceLT, reduceCtorEq, g1, bc1, g2, bc2, g10, bc12, g14, bc18, q7, bc19, g15, bc20, x150, x150B]
            · have bc20 : (y13) = false := boolF c20
              rw [if_neg c20] at h
              cases h
              simp only [retG, ↓askB_true, ↓askB_false, beq_self_eq_true, wz, Nat.reduceAdd, Nat.reduceSub, Nat.reduceMul, Nat.reduceBEq, Nat.reduceEqDiff, Nat.reduceLeDiff, Nat.reduceLT, reduceCtorEq, g1, bc1, g2, bc2, g10, bc12, g14, bc18, q7, bc19, g15, bc20, x150, x150B]
        · have bc18 : (y12) = false := boolF c18
          rw [if_neg c18] at h
          have q8 := Pt.clV a1 a0
          simp only [Pt.v, Pt.e, List.map_cons, List.map_nil] at q8
          by_cases c21 : a1 = a0
          · have bc21 : (Pt.eqb a1 a0) = true := Pt.eqbT c21
            rw [if_pos c21] at h
            cases h
            simp only [retG, ↓askB_true, ↓askB_false, beq_self_eq_true, wz, Nat.reduceAdd, Nat.reduceSub, Nat.reduceMul, Nat.reduceBEq, Nat.reduceEqDiff, Nat.reduceLeDiff, Nat.reduceLT, reduceCtorEq, g1, bc1, g2, bc2, g10, bc12, g14, bc18, q8, bc21, x150, x150B]
          · have bc21 : (Pt.eqb a1 a0) = false := Pt.eqbF c21
            rw [if_neg c21] at h
            cases h
            simp only [retG, ↓askB_true, ↓askB_false, beq_self_eq_true, wz, Nat.reduceAdd, Nat.reduceSub, Nat.reduceMul, Nat.reduceBEq, Nat.reduceEqDiff, Nat.reduceLeDiff, Nat.reduceLT, reduceCtorEq, g1, bc1, g2, bc2, g10, bc12, g14, bc18, q8, bc21, x150, x150B]
  · have bc1 : (y1) = false := boolF c1
    rw [if_neg c1] at h
    obtain ⟨y14, hy14, h⟩ := obind h
    have g17 : ∀ os, callX prog cfg (famT r08_shared_fams) 165 [.agg [I a3.x, I a3.y], .agg [I a2.x, I a2.y]] (E0 os) = some (B y14, E0 os, none) := fun os => callX_fam rfl (famLook_hit rfl (r08_first_val hy14))
    by_cases c22 : y14 = true
    · have bc22 : (y14) = true := id c22
      rw [if_pos c22] at h
      obtain ⟨y15, hy15, h⟩ := obind h
      have g18 : ∀ os, callX prog cfg (famT r08_shared_fams) 165 [.agg [I a0.x, I a0.y], .agg [I a3.x, I a3.y]] (E0 os) = some (B y15, E0 os, none) := fun os => callX_fam rfl (famLook_hit rfl (r08_first_val hy15))
      by_cases c23 : y15 = true
      · have bc23 : (y15) = true := id c23
        rw [if_pos c23] at h
        obtain ⟨y16, hy16, h⟩ := obind h
        have g19 : ∀ os, callX prog cfg (famT r08_shared_fams) 165 [.agg [I a2.x, I a2.y], .agg [I a1.x, I a1.y]] (E0 os) = some (B y16, E0 os, none) := fun os => callX_fam rfl (famLook_hit rfl (r08_first_val hy16))
        by_cases c24 : y16 = true
        · have bc24 : (y16) = true := id c24
          rw [if_pos c24] at h
          have q9 := Pt.clV a3 a2
          simp only [Pt.v, Pt.e, List.map_cons, List.map_nil] at q9
          by_cases c25 : a3 = a2
          · have bc25 : (Pt.eqb a3 a2) = true := Pt.eqbT c25
            rw [if_pos c25] at h
            cases h
            simp only [retG, ↓askB_true, ↓askB_false, beq_self_eq_true, wz, Nat.reduceAdd, Nat.reduceSub, Nat.reduceMul, Nat.reduceBEq, Nat.reduceEqDiff, Nat.reduceLeDiff, Nat.reduceLT, reduceCtorEq, g1, bc1, g17, bc22, g18, bc23, g19, bc24, q9, bc25, x150, x150B]
          · have bc25 : (Pt.eqb a3 a2) = false := Pt.eqbF c25
            rw [if_neg c25] at h
            cases h
            simp only [retG, ↓askB_true, ↓askB_false, beq_self_eq_true, wz, Nat.reduceAdd, Nat.reduceSub, Nat.reduceMul, Nat.reduceBEq, Nat.reduceEqDiff, Nat.reduceLeDiff, Nat.reduceLT, reduceCtorEq, g1, bc1, g17, bc22, g18, bc23, g19, bc24, q9, bc25, x150, x150B]
        · have bc24 : (y16) = false := boolF c24
          rw [if_neg c24] at h
          have q10 := Pt.clV a3 a1
          simp only [Pt.v, Pt.e, List.map_cons, List.map_nil] at q10
          by_cases c26 : a3 = a1
          · have bc26 : (Pt.eqb a3 a1) = true := Pt.eqbT c26
            rw [if_pos c26] at h
            cases h
            simp only [retG, ↓askB_true, ↓askB_false, beq_self_eq_true, wz, Nat.reduceAdd, Nat.reduceSub, Nat.reduceMul, Nat.reduceBEq, Nat.reduceEqDiff, Nat.reduceLeDiff, Nat.reduceLT, reduceCtorEq, g1, bc1, g17, bc22, g18, bc23, g19, bc24, q10, bc26, x150, x150B]
          · have bc26 : (Pt.eqb a3 a1) = false := Pt.eqbF c26
            rw [if_neg c26] at h
            obtain ⟨y17, hy17, h⟩ := obind h
            have g21 : ∀ os, callX prog cfg (famT r08_shared_fams) 165 [.agg [I a3.x, I a3.y], .agg [I a1.x, I a1.y]] (E0 os) = some (B y17, E0 os, none) := fun os => callX_fam rfl (famLook_hit rfl (r08_first_val hy17))
            by_cases c27 : y17 = true
            · have bc27 : (y17) = true := id c27
              rw [if_pos c27] at h
              cases h
              simp only [retG, ↓askB_true, ↓askB_false, beq_self_eq_true, wz, Nat.reduceAdd, Nat.reduceSub, Nat.reduceMul, Nat.reduceBEq, Nat.reduceEqDiff, Nat.reduceLeDiff, Nat.reduceLT, reduceCtorEq, g1, bc1, g17, bc22, g18, bc23, g19, bc24, q10, bc26, g21, bc27, x150, x150B]
            · have bc27 : (y17) = false := boolF c27
              rw [if_neg c27] at h
              cases h
              simp only [retG, ↓askB_true, ↓askB_false, beq_self_eq_true, wz, Nat.reduceAdd, Nat.reduceSub, Nat.reduceMul, Nat.reduceBEq, Nat.reduceEqDiff, Nat.reduceLeDiff, Nat.reduceLT, reduceCtorEq, g1, bc1, g17, bc22, g18, bc23, g19, bc24, q10, bc26, g21, bc27, x150, x150B]
      · have bc23 : (y15) = false := boolF c23
        rw [if_neg c23] at h
        obtain ⟨y18, hy18, h⟩ := obind h
        have g22 : ∀ os, callX prog cfg (famT r08_shared_fams) 165 [.agg [I a2.x, I a2.y], .agg [I a1.x, I a1.y]] (E0 os) = some (B y18, E0 os, none) := fun os => callX_fam rfl (famLook_hit rfl (r08_first_val hy18))
        by_cases c28 : y18 = true
        · have bc28 : (y18) = true := id c28
          rw [if_pos c28] at h
          have q11 := Pt.clV a0 a2
          simp only [Pt.v, Pt.e, List.map_cons, List.map_nil] at q11
          by_cases c29 : a0 = a2
          · have bc29 : (Pt.eqb a0 a2) = true := Pt.eqbT c29
            rw [if_pos c29] at h
            cases h
            simp only [retG, ↓askB_true, ↓askB_false, beq_self_eq_true, wz, Nat.reduceAdd, Nat.reduceSub, Nat.reduceMul, Nat.reduceBEq, Nat.reduceEqDiff, Nat.reduceLeDiff, Nat.reduceLT, reduceCtorEq, g1, bc1, g17, bc22, g18, bc23, g22, bc28, q11, bc29, x150, x150B]
          · have bc29 : (Pt.eqb a0 a2) = false := Pt.eqbF c29
            rw [if_neg c29] at h
            obtain ⟨y19, hy19, h⟩ := obind h
            have g23 : ∀ os, callX prog cfg (famT r08_shared_fams) 165 [.agg [I a0.x, I a0.y], .agg [I a2.x, I a2.y]] (E0 os) = some (B y19, E0 os, none) := fun os => callX_fam rfl (famLook_hit rfl (r08_first_val hy19))
            by_cases c30 : y19 = true
            · have bc30 : (y19) = true := id c30
              rw [if_pos c30] at h
              cases h
              simp only [retG, ↓askB_true, ↓askB_false, beq_self_eq_true, wz, Nat.reduceAdd, Nat.reduceSub, Nat.reduceMul, Nat.reduceBEq, Nat.reduceEqDiff, Nat.reduceLeDiff, Nat.reduceLT, reduceCtorEq, g1, bc1, g17, bc22, g18, bc23, g22, bc28, q11, bc29, g23, bc30, x150, x150B]
            · have bc30 : (y19) = false := boolF c30
              rw [if_neg c30] at h
              cases h
              simp only [retG, ↓askB_true, ↓askB_false, beq_self_eq_true, wz, Nat.reduceAdd, Nat.reduceSub, Nat.reduceMul, Nat.reduceBEq, Nat.reduceEqDiff, Nat.reduceLeDiff, Nat.reduceLT, reduceCtorEq, g1, bc1, g17, bc22, g18, bc23, g22, bc28, q11, bc29, g23, bc30, x150, x150B]
        · have bc28 : (y18) = false := boolF c28
          rw [if_neg c28] at h
          have q12 := Pt.clV a0 a1
          simp only [Pt.v, Pt.e, List.map_cons, List.map_nil] at q12
          by_cases c31 : a0 = a1
          · have bc31 : (Pt.eqb a0 a1) = true := Pt.eqbT c31
            rw [if_pos c31] at h
            cases h
            simp only [retG, ↓askB_true, ↓askB_false, beq_self_eq_true, wz, Nat.reduceAdd, Nat.reduceSub, Nat.reduceMul, Nat.reduceBEq, Nat.reduceEqDiff, Nat.reduceLeDiff, Nat.reduceLT, reduceCtorEq, g1, bc1, g17, bc22, g18, bc23, g22, bc28, q12, bc31, x150, x150B]
          · have bc31 : (Pt.eqb a0 a1) = false := Pt.eqbF c31
            rw [if_neg c31] at h
            obtain ⟨y20, hy20, h⟩ := obind h
            have g24 : ∀ os, callX prog cfg (famT r08_shared_fams) 165 [.agg [I a0.x, I a0.y], .agg [I a1.x, I a1.y]] (E0 os) = some (B y20, E0 os, none) := fun os => callX_fam rfl (famLook_hit rfl (r08_first_val hy20))
            by_cases c32 : y20 = true
            · have bc32 : (y20) = true := id c32
              rw [if_pos c32] at h
              cases h
              simp only [retG, ↓askB_true, ↓askB_false, beq_self_eq_true, wz, Nat.reduceAdd, Nat.reduceSub, Nat.reduceMul, Nat.reduceBEq, Nat.reduceEqDiff, Nat.reduceLeDiff, Nat.reduceLT, reduceCtorEq, g1, bc1, g17, bc22, g18, bc23, g22, bc28, q12, bc31, g24, bc32, x150, x150B]
            · have bc32 : (y20) = false := boolF c32
              rw [if_neg c32] at h
              cases h
              simp only [retG, ↓askB_true, ↓askB_false, beq_self_eq_true, wz, Nat.reduceAdd, Nat.reduceSub, Nat.reduceMul, Nat.reduceBEq, Nat.reduceEqDiff, Nat.reduceLeDiff, Nat.reduceLT, reduceCtorEq, g1, bc1, g17, bc22, g18, bc23, g22, bc28, q12, bc31, g24, bc32, x150, x150B]
    · have bc22 : (y14) = false := boolF c22
      rw [if_neg c22] at h
      obtain ⟨y21, hy21, h⟩ := obind h
      have g25 : ∀ os, callX prog cfg (famT r08_shared_fams) 165 [.agg [I a0.x, I a0.y], .agg [I a2.x, I a2.y]] (E0 os) = some (B y21, E0 os, none) := fun os => callX_fam rfl (famLook_hit rfl (r08_first_val hy21))
      by_cases c33 : y21 = true
      · have bc33 : (y21) = true := id c33
        rw [if_pos c33] at h
        obtain ⟨y22, hy22, h⟩ := obind h
        have g26 : ∀ os, callX prog cfg (famT r08_shared_fams) 165 [.agg [I a3.x, I a3.y], .agg [I a1.x, I a1.y]] (E0 os) = some (B y22, E0 os, none) := fun os => callX_fam rfl (famLook_hit rfl (r08_first_val hy22))
        by_cases c34 : y22 = true
        · have bc34 : (y22) = true := id c34
          rw [if_pos c34] at h
          have q13 := Pt.clV a2 a3
          simp only [Pt.v, Pt.e, List.map_cons, List.map_nil] at q13
          by_cases c35 : a2 = a3
          · have bc35 : (Pt.eqb a2 a3) = true := Pt.eqbT c35
            rw [if_pos c35] at h
            cases h
            simp only [retG, ↓askB_true, ↓askB_false, beq_self_eq_true, wz, Nat.reduceAdd, Nat.reduceSub, Nat.reduceMul, Nat.reduceBEq, Nat.reduceEqDiff, Nat.reduceLeDiff, Nat.reduceLT, reduceCtorEq, g1, bc1, g17, bc22, g25, bc33, g26, bc34, q13, bc35, x150, x150B]
          · have bc35 : (Pt.eqb a2 a3) = false := Pt.eqbF c35
            rw [if_neg c35] at h
            obtain ⟨y23, hy23, h⟩ := obind h
            have g27 : ∀ os, callX prog cfg (famT r08_shared_fams) 165 [.agg [I a2.x, I a2.y], .agg [I a3.x, I a3.y]] (E0 os) = some (B y23, E0 os, none) := fun os => callX_fam rfl (famLook_hit rfl (r08_first_val hy23))
            by_cases c36 : y23 = true
            · have bc36 : (y23) = true := id c36
              rw [if_pos c36] at h
              cases h
              simp only [retG, ↓askB_true, ↓askB_false, beq_self_eq_true, wz, Nat.reduceAdd, Nat.reduceSub, Nat.reduceMul, Nat.reduceBEq, Nat.reduceEqDiff, Nat.reduceLeDiff, Nat.reduceLT, reduceCtorEq, g1, bc1, g17, bc22, g25, bc33, g26, bc34, q13, bc35, g27, bc36, x150, x150B]
            · have bc36 : (y23) = false := boolF c36
              rw [if_neg c36] at h
              cases h
              simp only [retG, ↓askB_true, ↓askB_false, beq_self_eq_true, wz, Nat.reduceAdd, Nat.reduceSub, Nat.reduceMul, Nat.reduceBEq, Nat.reduceEqDiff, Nat.reduceLeDiff, Nat.reduceLT, reduceCtorEq, g1, bc1, g17, bc22, g25, bc33, g26, bc34, q13, bc35, g27, bc36, x150, x150B]
        · have bc34 : (y22) = false := boolF c34
          rw [if_neg c34] at h
          have q14 := Pt.clV a2 a1
          simp only [Pt.v, Pt.e, List.map_cons, List.map_nil] at q14
          by_cases c37 : a2 = a1
          · have bc37 : (Pt.eqb a2 a1) = true := Pt.eqbT c37
            rw [if_pos c37] at h
            cases h
            simp only [retG, ↓askB_true, ↓askB_false, beq_self_eq_true, wz, Nat.reduceAdd, Nat.reduceSub, Nat.reduceMul, Nat.reduceBEq, Nat.reduceEqDiff, Nat.reduceLeDiff, Nat.reduceLT, reduceCtorEq, g1, bc1, g17, bc22, g25, bc33, g26, bc34, q14, bc37, x150, x150B]
          · have bc37 : (Pt.eqb a2 a1) = false := Pt.eqbF c37
            rw [if_neg c37] at h
            obtain ⟨y24, hy24, h⟩ := obind h
            have g28 : ∀ os, callX prog cfg (famT r08_shared_fams) 165 [.agg [I a2.x, I a2.y], .agg [I a1.x, I a1.y]] (E0 os) = some (B y24, E0 os, none) := fun os => callX_fam rfl (famLook_hit rfl (r08_first_val hy24))
            by_cases c38 : y24 = true
            · have bc38 : (y24) = true := id c38
              rw [if_pos c38] at h
              cases h
              simp only [retG, ↓askB_true, ↓askB_false, beq_self_eq_true, wz, Nat.reduceAdd, Nat.reduceSub, Nat.reduceMul, Nat.reduceBEq, Nat.reduceEqDiff, Nat.reduceLeDiff, Nat.reduceLT, reduceCtorEq, g1, bc1, g17, bc22, g25, bc33, g26, bc34, q14, bc37, g28, bc38, x150, x150B]
            · have bc38 : (y24) = false := boolF c38
              rw [if_neg c38] at h
              cases h
              simp only [retG, ↓askB_true, ↓askB_false, beq_self_eq_true, wz, Nat.reduceAdd, Nat.reduceSub, Nat.reduceMul, Nat.reduceBEq, Nat.reduceEqDiff, Nat.reduceLeDiff, Nat.reduceLT, reduceCtorEq, g1, bc1, g17, bc22, g25, bc33, g26, bc34, q14, bc37, g28, bc38, x150, x150B]
      · have bc33 : (y21) = false := boolF c33
        rw [if_neg c33] at h
        obtain ⟨y25, hy25, h⟩ := obind h
        have g29 : ∀ os, callX prog cfg (famT r08_shared_fams) 165 [.agg [I a3.x, I a3.y], .agg [I a1.x, I a1.y]] (E0 os) = some (B y25, E0 os, none) := fun os => callX_fam rfl (famLook_hit rfl (r08_first_val hy25))
        by_cases c39 : y25 = true
        · have bc39 : (y25) = true := id c39
          rw [if_pos c39] at h
          have q15 := Pt.clV a0 a3
          simp only [Pt.v, Pt.e, List.map_cons, List.map_nil] at q15
          by_cases c40 : a0 = a3
          · have bc40 : (Pt.eqb a0 a3) = true := Pt.eqbT c40
            rw [if_pos c40] at h
            cases h
            simp only [retG, ↓askB_true, ↓askB_false, beq_self_eq_true, wz, Nat.reduceAdd, Nat.reduceSub, Nat.reduceMul, Nat.reduceBEq, Nat.reduceEqDiff, Nat.reduceLeDiff, Nat.reduceLT, reduceCtorEq, g1, bc1, g17, bc22, g25, bc33, g29, bc39, q15, bc40, x150, x150B]
          · have bc40 : (Pt.eqb a0 a3) = false := Pt.eqbF c40
            rw [if_neg c40] at h
            obtain ⟨y26, hy26, h⟩ := obind h
            have g30 : ∀ os, callX prog cfg (famT r08_shared_fams) 165 [.agg [I a0.x, I a0.y], .agg [I a3.x, I a3.y]] (E0 os) = some (B y26, E0 os, none) := fun os => callX_fam rfl (famLook_hit rfl (r08_first_val hy26))
            by_cases c41 : y26 = true
            · have bc41 : (y26) = true := id c41
              rw [if_pos c41] at h
              cases h
              simp only [retG, ↓askB_true, ↓askB_false, beq_self_eq_true, wz, Nat.reduceAdd, Nat.reduceSub, Nat.reduceMul, Nat.reduceBEq, Nat.reduceEqDiff, Nat.reduceLeDiff, Nat.reduceLT, reduceCtorEq, g1, bc1, g17, bc22, g25, bc33, g29, bc39, q15, bc40, g30, bc41, x150, x150B]
            · have bc41 : (y26) = false := boolF c41
              rw [if_neg c41] at h
              cases h
              simp only [retG, ↓askB_true, ↓askB_false, beq_self_eq_true, wz, Nat.reduceAdd, Nat.reduceSub, Nat.reduceMul, Nat.reduceBEq, Nat.reduceEqDiff, Nat.reduceLeDiff, Nat.reduceLT, reduceCtorEq, g1, bc1, g17, bc22, g25, bc33, g29, bc39, q15, bc40, g30, bc41, x150, x150B]
        · have bc39 : (y25) = false := boolF c39
          rw [if_neg c39] at h
          have q16 := Pt.clV a0 a1
          simp only [Pt.v, Pt.e, List.map_cons, List.map_nil] at q16
          by_cases c42 : a0 = a1
          · have bc42 : (Pt.eqb a0 a1) = true := Pt.eqbT c42
            rw [if_pos c42] at h
            cases h
            simp only [retG, ↓askB_true, ↓askB_false, beq_self_eq_true, wz, Nat.reduceAdd, Nat.reduceSub, Nat.reduceMul, Nat.reduceBEq, Nat.reduceEqDiff, Nat.reduceLeDiff, Nat.reduceLT, reduceCtorEq, g1, bc1, g17, bc22, g25, bc33, g29, bc39, q16, bc42, x150, x150B]
          · have bc42 : (Pt.eqb a0 a1) = false := Pt.eqbF c42
            rw [if_neg c42] at h
            obtain ⟨y27, hy27, h⟩ := obind h
            have g31 : ∀ os, callX prog cfg (famT r08_shared_fams) 165 [.agg [I a0.x, I a0.y], .agg [I a1.x, I a1.y]] (E0 os) = some (B y27, E0 os, none) := fun os => callX_fam rfl (famLook_hit rfl (r08_first_val hy27))
            by_cases c43 : y27 = true
            · have bc43 : (y27) = true := id c43
              rw [if_pos c43] at h
              cases h
              simp only [retG, ↓askB_true, ↓askB_false, beq_self_eq_true, wz, Nat.reduceAdd, Nat.reduceSub, Nat.reduceMul, Nat.reduceBEq, Nat.reduceEqDiff, Nat.reduceLeDiff, Nat.reduceLT, reduceCtorEq, g1, bc1, g17, bc22, g25, bc33, g29, bc39, q16, bc42, g31, bc43, x150, x150B]
            · have bc43 : (y27) = false := boolF c43
              rw [if_neg c43] at h
              cases h
              simp only [retG, ↓askB_true, ↓askB_false, beq_self_eq_true, wz, Nat.reduceAdd, Nat.reduceSub, Nat.reduceMul, Nat.reduceBEq, Nat.reduceEqDiff, Nat.reduceLeDiff, Nat.reduceLT, reduceCtorEq, g1, bc1, g17, bc22, g25, bc33, g29, bc39, q16, bc42, g31, bc43, x150, x150B]

noncomputable def r08_shared_fam : Fam := famC prog cfg (famT r08_shared_fams) 150
theorem r08_shared_val {a0 : Pt} {a1 : Pt} {a2 : Pt} {a3 : Pt} {r : Int} (h : r08_shared a0 a1 a2 a3 = some r) : r08_shared_fam.val [.agg [I a0.x, I a0.y], .agg [I a1.x, I a1.y], .agg [I a2.x, I a2.y], .agg [I a3.x, I a3.y]] = some (.flat (I r)) := famC_flat (r08_shared_ok h) rfl rfl
def r08_shared_At (fams : List Fam) : Prop := ∀  {a0 : Pt} {a1 : Pt} {a2 : Pt} {a3 : Pt} {r : Int} {xs_ : List TV} {os os1 : List TO}, r08_shared a0 a1 a2 a3 = some r → argsT false (E0 os) xs_ = some ([.agg [I a0.x, I a0.y], .agg [I a1.x, I a1.y], .agg [I a2.x, I a2.y], .agg [I a3.x, I a3.y]], E0 os1) → callX prog cfg (famT fams) 150 xs_ (E0 os) = some (I r, E0 os1, none)
theorem r08_shared_goods : ∀ x, x ∈ r08_shared_fams → x.Good prog := (goodsC r08_first_good goods0)
theorem r08_shared_good : r08_shared_fam.Good prog := famC_good sound r08_shared_goods
/- 128: mapsheets/mapsheetsref08.Meet -/
noncomputable def r08_Meet_fams : List Fam := [r08_Near_fam, r08_cross_fam, r08_shared_fam]
noncomputable def r08_Meet (a0 : Pt) (a1 : Pt) (a2 : Pt) (a3 : Pt) : Option (Int) := ((r08_Near (([a0, a1, a2, a3] : List Pt))).bind fun y1 => (if y1 = true then (if a0 = a1 then (if a2 = a3 then (if a0 = a2 then ((r08_cross a0 a1 a2 a3).bind fun y2 => (if y2 = 0 then ((r08_cross a0 a1 a0 a2).bind fun y3 => (if ¬ y3 = 0 then some 0 else ((r08_cross a0 a1 a0 a3).bind fun y4 => (if ¬ y4 = 0 then some 0 else ((r08_cross a2 a3 a2 a0).bind fun y5 => (if ¬ y5 = 0 then some 0 else ((r08_cross a2 a3 a2 a1).bind fun y6 => (if ¬ y6 = 0 then some 0 else ((r08_shared a0 a1 a2 a3).bind fun y7 => some y7))))))))) else ((r08_cross a0 a2 a2 a3).bind fun y8 => ((r08_cross a0 a2 a0 a1).bind fun y9 => (if y2 < 0 then (if (w64 (0 - y8)) ≥ 0 then (if (w64 (0 - y8)) ≤ (w64 (0 - y2)) then (if (w64 (0 - y9)) ≥ 0 then (if (w64 (0 - y9)) ≤ (w64 (0 - y2)) then some 1 else some 0) else some 0) else some 0) else some 0) else (if y8 ≥ 0 then (if y8 ≤ y2 then (if y9 ≥ 0 then (if y9 ≤ y2 then some 1 else some 0) else some 0) else some 0) else some 0)))))) else some 0) else ((r08_cross a0 a1 a2 a3).bind fun y10 => (if y10 = 0 then ((r08_cross a0 a1 a0 a2).bind fun y11 => (if ¬ y11 = 0 then some 0 else ((r08_cross a0 a1 a0 a3).bind fun y12 => (if ¬ y12 = 0 then some 0 else ((r08_cross a2 a3 a2 a0).bind fun y13 => (if ¬ y13 = 0 then some 0 else ((r08_cross a2 a3 a2 a1).bind fun y14 => (if ¬ y14 = 0 then some 0 else ((r08_shared a0 a1 a2 a3).bind fun y15 => some y15))))))))) else ((r08_cross a0 a2 a2 a3).bind fun y16 => ((r08_cross a0 a2 a0 a1).bind fun y17 => (if y10 < 0 then (if (w64 (0 - y16)) ≥ 0 then (if (w64 (0 - y16)) ≤ (w64 (0 - y10)) then (if (w64 (0 - y17)) ≥ 0 then (if (w64 (0 - y17)) ≤ (w64 (0 - y10)) then some 1 else some 0) else some 0) else some 0) else some 0) else (if y16 ≥ 0 then (if y16 ≤ y10 then (if y17 ≥ 0 then (if y17 ≤ y10 then some 1 else some 0) else some 0) else some 0) else some 0))))))) else ((r08_cross a0 a1 a2 a3).bind fun y18 => (if y18 = 0 then ((r08_cross a0 a1 a0 a2).bind fun y19 => (if ¬ y19 = 0 then some 0 else ((r08_cross a0 a1 a0 a3).bind fun y20 => (if ¬ y20 = 0 then some 0 else ((r08_cross a2 a3 a2 a0).bind fun y21 => (if ¬ y21 = 0 then some 0 else ((r08_cross a2 a3 a2 a1).bind fun y22 => (if ¬ y22 = 0 then some 0 else ((r08_shared a0 a1 a2 a3).bind fun y23 => some y23))))))))) else ((r08_cross a0 a2 a2 a3).bind fun y24 => ((r08_cross a0 a2 a0 a1).bind fun y25 => (if y18 < 0 then (if (w64 (0 - y24)) ≥ 0 then (if (w64 (0 - y24)) ≤ (w64 (0 - y18)) then (if (w64 (0 - y25)) ≥ 0 then (if (w64 (0 - y25)) ≤ (w64 (0 - y18)) then some 1 else some 0) else some 0) else some 0) else some 0) else (if y24 ≥ 0 then (if y24 ≤ y18 then (if y25 ≥ 0 then (if y25 ≤ y18 then some 1 else some 0) else some 0) else some 0) else some 0))))))) else some 0))
theorem r08_Meet_ok {a0 : Pt} {a1 : Pt} {a2 : Pt} {a3 : Pt} {r : Int} (h : r08_Meet a0 a1 a2 a3 = some r) : callL prog cfg (famT r08_Meet_fams) 128 [.agg [I a0.x, I a0.y], .agg [I a1.x, I a1.y], .agg [I a2.x, I a2.y], .agg [I a3.x, I a3.y]] (E0 []) = some (I r, E0 [], none) := by
  refine callL_wpG cx128 (ax := [.agg [I a0.x, I a0.y], .agg [I a1.x, I a1.y], .agg [I a2.x, I a2.y], .agg [I a3.x, I a3.y]]) rfl rfl ?_
  unfold r08_Meet at h
  try dsimp only at h
  obtain ⟨y1, hy1, h⟩ := obind h
  have g1 : ∀ os, callX prog cfg (famT r08_Meet_fams) 66 [.r (.lst [[cI a0.x, cI a0.y], [cI a1.x, cI a1.y], [cI a2.x, cI a2.y], [cI a3.x, cI a3.y]] (some 4))] (E0 os) = some (B y1, E0 os, none) := fun os => callX_fam rfl (famLook_hit rfl (r08_Near_val hy1))
  by_cases c1 : y1 = true
  · have bc1 : (y1) = true := id c1
    rw [if_pos c1] at h
    have q1 := Pt.clV a0 a1
    simp only [Pt.v, Pt.e, List.map_cons, List.map_nil] at q1
    by_cases c2 : a0 = a1
    · have bc2 : (Pt.eqb a0 a1) = true := Pt.eqbT c2
      rw [if_pos c2] at h
      have q2 := Pt.clV a2 a3
      simp only [Pt.v, Pt.e, List.map_cons, List.map_nil] at q2
      by_cases c3 : a2 = a3
      · have bc3 : (Pt.eqb a2 a3) = true := Pt.eqbT c3
        rw [if_pos c3] at h
        have q3 := Pt.clV a0 a2
        simp only [Pt.v, Pt.e, List.map_cons, List.map_nil] at q3
        by_cases c4 : a0 = a2
        · have bc4 : (Pt.eqb a0 a2) = true := Pt.eqbT c4
          rw [if_pos c4] at h
          obtain ⟨y2, hy2, h⟩ := obind h
          have g2 : ∀ os, callX prog cfg (famT r08_Meet_fams) 68 [.agg [I a0.x, I a0.y], .agg [I a1.x, I a1.y], .agg [I a2.x, I a2.y], .agg [I a3.x, I a3.y]] (E0 os) = some (I y2, E0 os, none) := fun os => callX_fam rfl (famLook_skip rfl <| famLook_hit rfl (r08_cross_val hy2))
          by_cases c5 : y2 = 0
          · have bc5 : (y2 == 0) = true := beqT c5
            rw [if_pos c5] at h
            obtain ⟨y3, hy3, h⟩ := obind h
            have g3 : ∀ os, callX prog cfg (famT r08_Meet_fams) 68 [.agg [I a0.x, I a0.y], .agg [I a1.x, I a1.y], .agg [I a0.x, I a0.y], .agg [I a2.x, I a2.y]] (E0 os) = some (I y3, E0 os, none) := fun os => callX_fam rfl (famLook_skip rfl <| famLook_hit rfl (r08_cross_val hy3))
            by_cases c6 : ¬ y3 = 0
            · have bc6 : (y3 != 0) = true := bneT c6
              rw [if_pos c6] at h
              cases h
              simp only [retG, ↓askB_true, ↓askB_false, beq_self_eq_true, wz, Nat.reduceAdd, Nat.reduceSub, Nat.reduceMul, Nat.reduceBEq, Nat.reduceEqDiff, Nat.reduceLeDiff, Nat.reduceLT, reduceCtorEq, g1, bc1, q1, bc2, q2, bc3, q3, bc4, g2, bc5, g3, bc6, x128, x128B]
            · have bc6 : (y3 != 0) = false := bneF_ c6
              rw [if_neg c6] at h
              obtain ⟨y4, hy4, h⟩ := obind h
              have g4 : ∀ os, callX prog cfg (famT r08_Meet_fams) 68 [.agg [I a0.x, I a0.y], .agg [I a1.x, I a1.y], .agg [I a0.x, I a0.y], .agg [I a3.x, I a3.y]] (E0 os) = some (I y4, E0 os, none) := fun os => callX_fam rfl (famLook_skip rfl <| famLook_hit rfl (r08_cross_val hy4))
              by_cases c7 : ¬ y4 = 0
              · have bc7 : (y4 != 0) = true := bneT c7
                rw [if_pos c7] at h
                cases h
                simp only [retG, ↓askB_true, ↓askB_false, beq_self_eq_true, wz, Nat.reduceAdd, Nat.reduceSub, Nat.reduceMul, Nat.reduceBEq, Nat.reduceEqDiff, Nat.reduceLeDiff, Nat.reduceLT, reduceCtorEq, g1, bc1, q1, bc2, q2, bc3, q3, bc4, g2, bc5, g3, bc6, g4, bc7, x128, x128B]
              · have bc7 : (y4 != 0) = false := bneF_ c7
                rw [if_neg c7] at h
                obtain ⟨y5, hy5, h⟩ := obind h
                have g5 : ∀ os, callX prog cfg (famT r08_Meet_fams) 68 [.agg [I a2.x, I a2.y], .agg [I a3.x, I a3.y], .agg [I a2.x, I a2.y], .agg [I a0.x, I a0.y]] (E0 os) = some (I y5, E0 os, none) := fun os => callX_fam rfl (famLook_skip rfl <| famLook_hit rfl (r08_cross_val hy5))
                by_cases c8 : ¬ y5 = 0
                · have bc8 : (y5 != 0) = true := bneT c8
                  rw [if_pos c8] at h
                  cases h
                  simp only [retG, ↓askB_true, ↓askB_false, beq_self_eq_true, wz, Nat.reduceAdd, Nat.reduceSub, Nat.reduceMul, Nat.reduceBEq, Nat.reduceEqDiff, Nat.reduceLeDiff, Nat.reduceLT, reduceCtorEq, g1, bc1, q1, bc2, q2, bc3, q3, bc4, g2, bc5, g3, bc6, g4, bc7, g5, bc8, x128, x128B]
                · have bc8 : (y5 != 0) = false := bneF_ c8
                  rw [if_neg c8] at h
                  obtain ⟨y6, hy6, h⟩ := obind h
                  have g6 : ∀ os, callX prog cfg (famT r08_Meet_fams) 68 [.agg [I a2.x, I a2.y], .agg [I a3.x, I a3.y], .agg [I a2.x, I a2.y], .agg [I a1.x, I a1.y]] (E0 os) = some (I y6, E0 os, none) := fun os => callX_fam rfl (famLook_skip rfl <| famLook_hit rfl (r08_cross_val hy6))
                  by_cases c9 : ¬ y6 = 0
                  · have bc9 : (y6 != 0) = true := bneT c9
                    rw [if_pos c9] at h
                    cases h
                    simp only [retG, ↓askB_true, ↓askB_false, beq_self_eq_true, wz, Nat.reduceAdd, Nat.reduceSub, Nat.reduceMul, Nat.reduceBEq, Nat.reduceEqDiff, Nat.reduceLeDiff, Nat.reduceLT, reduceCtorEq, g1, bc1, q1, bc2, q2, bc3, q3, bc4, g2, bc5, g3, bc6, g4, bc7, g5, bc8, g6, bc9, x128, x128B]
                  · have bc9 : (y6 != 0) = false := bneF_ c9
                    rw [if_neg c9] at h
                    obtain ⟨y7, hy7, h⟩ := obind h
                    have g7 : ∀ os, callX prog cfg (famT r08_Meet_fams) 150 [.agg [I a0.x, I a0.y], .agg [I a1.x, I a1.y], .agg [I a2.x, I a2.y], .agg [I a3.x, I a3.y]] (E0 os) = some (I y7, E0 os, none) := fun os => callX_fam rfl (famLook_skip rfl <| famLook_skip rfl <| famLook_hit rfl (r08_shared_val hy7))
                    cases h
                    simp only [retG, ↓askB_true, ↓askB_false, beq_self_eq_true, wz, Nat.reduceAdd, Nat.reduceSub, Nat.reduceMul, Nat.reduceBEq, Nat.reduceEqDiff, Nat.reduceLeDiff, Nat.reduceLT, reduceCtorEq, g1, bc1, q1, bc2, q2, bc3, q3, bc4, g2, bc5, g3, bc6, g4, bc7, g5, bc8, g6, bc9, g7, x128, x128B]
          · have bc5 : (y2 == 0) = false := beqF c5
            rw [if_neg c5] at h
            obtain ⟨y8, hy8, h⟩ := obind h
            have g8 : ∀ os, callX prog cfg (famT r08_Meet_fams) 68 [.agg [I a0.x, I a0.y], .agg [I a2.x, I a2.y], .agg [I a2.x, I a2.y], .agg [I a3.x, I a3.y]] (E0 os) = some (I y8, E0 os, none) := fun os => callX_fam rfl (famLook_skip rfl <| famLook_hit rfl (r08_cross_val hy8))
            obtain ⟨y9, hy9, h⟩ := obind h
            have g9 : ∀ os, callX prog cfg (famT r08_Meet_fams) 68 [.agg [I a0.x, I a0.y], .agg [I a2.x, I a2.y], .agg [I a0.x, I a0.y], .agg [I a1.x, I a1.y]] (E0 os) = some (I y9, E0 os, none) := fun os => callX_fam rfl (famLook_skip rfl <| famLook_hit rfl (r08_cross_val hy9))
            by_cases c10 : y2 < 0
            · have bc10 : (decide (y2 < 0)) = true := decT c10
              rw [if_pos c10] at h
              by_cases c11 : (w64 (0 - y8)) ≥ 0
              · have bc11 : (decide ((w64 (0 - y8)) ≥ 0)) = true := decT c11
                rw [if_pos c11] at h
                by_cases c12 : (w64 (0 - y8)) ≤ (w64 (0 - y2))
                · have bc12 : (decide ((w64 (0 - y8)) ≤ (w64 (0 - y2)))) = true := decT c12
                  rw [if_pos c12] at h
                  by_cases c13 : (w64 (0 - y9)) ≥ 0
                  · have bc13 : (decide ((w64 (0 - y9)) ≥ 0)) = true := decT c13
                    rw [if_pos c13] at h
                    by_cases c14 : (w64 (0 - y9)) ≤ (w64 (0 - y2))
                    · have bc14 : (decide ((w64 (0 - y9)) ≤ (w64 (0 - y2)))) = true := decT c14
                      rw [if_pos c14] at h
                      cases h
                      simp only [retG, ↓askB_true, ↓askB_false, beq_self_eq_true, wz, Nat.reduceAdd, Nat.reduceSub, Nat.reduceMul, Nat.reduceBEq, Nat.reduceEqDiff, Nat.reduceLeDiff, Nat.reduceLT, reduceCtorEq, g1, bc1, q1, bc2, q2, bc3, q3, bc4, g2, bc5, g8, g9, bc10, bc11, bc12, bc13, bc14, x128, x128B]
                    · have bc14 : (decide ((w64 (0 - y9)) ≤ (w64 (0 - y2)))) = false := decF c14
                      rw [if_neg c14] at h
                      cases h
                      simp only [retG, ↓askB_true, ↓askB_false, beq_self_eq_true, wz, Nat.reduceAdd, Nat.reduceSub, Nat.reduceMul, Nat.reduceBEq, Nat.reduceEqDiff, Nat.reduceLeDiff, Nat.reduceLT, reduceCtorEq, g1, bc1, q1, bc2, q2, bc3, q3, bc4, g2, bc5, g8, g9, bc10, bc11, bc12, bc13, bc14, x128, x128B]
                  · have bc13 : (decide ((w64 (0 - y9)) ≥ 0)) = false := decF c13
                    rw [if_neg c13] at h
                    cases h
                    simp only [retG, ↓askB_true, ↓askB_false, beq_self_eq_true, wz, Nat.reduceAdd, Nat.reduceSub, Nat.reduceMul, Nat.reduceBEq, Nat.reduceEqDiff, Nat.reduceLeDiff, Nat.reduceLT, reduceCtorEq, g1, bc1, q1, bc2, q2, bc3, q3, bc4, g2, bc5, g8, g9, bc10, bc11, bc12, bc13, x128, x128B]
                · have bc12 : (decide ((w64 (0 - y8)) ≤ (w64 (0 - y2)))) = false := decF c12
                  rw [if_neg c12] at h
                  cases h
                  simp only [retG, ↓askB_true, ↓askB_false, beq_self_eq_true, wz, Nat.reduceAdd, Nat.reduceSub, Nat.reduceMul, Nat.reduceBEq, Nat.reduceEqDiff, Nat.reduceLeDiff, Nat.reduceLT, reduceCtorEq, g1, bc1, q1, bc2, q2, bc3, q3, bc4, g2, bc5, g8, g9, bc10, bc11, bc12, x128, x128B]
              · have bc11 : (decide ((w64 (0 - y8)) ≥ 0)) = false := decF c11
                rw [if_neg c11] at h
                cases h
                simp only [retG, ↓askB_true, ↓askB_false, beq_self_eq_true, wz, Nat.reduceAdd, Nat.reduceSub, Nat.reduceMul, Nat.reduceBEq, Nat.reduceEqDiff, Nat.reduceLeDiff, Nat.reduceLT, reduceCtorEq, g1, bc1, q1, bc2, q2, bc3, q3, bc4, g2, bc5, g8, g9, bc10, bc11, x128, x128B]
            · have bc10 : (decide (y2 < 0)) = false := decF c10
              rw [if_neg c10] at h
              by_cases c15 : y8 ≥ 0
              · have bc15 : (decide (y8 ≥ 0)) = true := decT c15
                rw [if_pos c15] at h
                by_cases c16 : y8 ≤ y2
                · have bc16 : (decide (y8 ≤ y2)) = true := decT c16
                  rw [if_pos c16] at h
                  by_cases c17 : y9 ≥ 0
                  · have bc17 : (decide (y9 ≥ 0)) = true := decT c17
                    rw [if_pos c17] at h
                    by_cases c18 : y9 ≤ y2
                    · have bc18 : (decide (y9 ≤ y2)) = true := decT c18
                      rw [if_pos c18] at h
                      cases h
                      simp only [retG, ↓askB_true, ↓askB_false, beq_self_eq_true, wz, Nat.reduceAdd, Nat.reduceSub, Nat.reduceMul, Nat.reduceBEq, Nat.reduceEqDiff, Nat.reduceLeDiff, Nat.reduceLT, reduceCtorEq, g1, bc1, q1, bc2, q2, bc3, q3, bc4, g2, bc5, g8, g9, bc10, bc15, bc16, bc17, bc18, x128, x128B]
                    · have bc18 : (decide (y9 ≤ y2)) = false := decF c18
                      rw [if_neg c18] at h
                      cases h
                      simp only [retG, ↓askB_true, ↓askB_false, beq_self_eq_true, wz, Nat.reduceAdd, Nat.reduceSub, Nat.reduceMul, Nat.reduceBEq, Nat.reduceEqDiff, Nat.reduceLeDiff, Nat.reduceLT, reduceCtorEq, g1, bc1, q1, bc2, q2, bc3, q3, bc4, g2, bc5, g8, g9, bc10, bc15, bc16, bc17, bc18, x128, x128B]
                  · have bc17 : (decide (y9 ≥ 0)) = false := decF c17
                    rw [if_neg c17] at h
                    cases h
                    simp only [retG, ↓askB_true, ↓askB_false, beq_self_eq_true, wz, Nat.reduceAdd, Nat.reduceSub, Nat.reduceMul, Nat.reduceBEq, Nat.reduceEqDiff, Nat.reduceLeDiff, Nat.reduceLT, reduceCtorEq, g1, bc1, q1, bc2, q2, bc3, q3, bc4, g2, bc5, g8, g9, bc10, bc15, bc16, bc17, x128, x128B]
                · have bc16 : (decide (y8 ≤ y2)) = false := decF c16
                  rw [if_neg c16] at h
                  cases h
                  simp only [retG, ↓askB_true, ↓askB_false, beq_self_eq_true, wz, Nat.reduceAdd, Nat.reduceSub, Nat.reduceMul, Nat.reduceBEq, Nat.reduceEqDiff, Nat.reduceLeDiff, Nat.reduceLT, reduceCtorEq, g1, bc1, q1, bc2, q2, bc3, q3, bc4, g2, bc5, g8, g9, bc10, bc15, bc16, x128, x128B]
              · have bc15 : (decide (y8 ≥ 0)) = false := decF c15
                rw [if_neg c15] at h
                cases h
                simp only [retG, ↓askB_true, ↓askB_false, beq_self_eq_true, wz, Nat.reduceAdd, Nat.reduceSub, Nat.reduceMul, Nat.reduceBEq, Nat.reduceEqDiff, Nat.reduceLeDiff, Nat.reduceLT, reduceCtorEq, g1, bc1, q1, bc2, q2, bc3, q3, bc4, g2, bc5, g8, g9, bc10, bc15, x128, x128B]
        · have bc4 : (Pt.eqb a0 a2) = false := Pt.eqbF c4
          rw [if_neg c4] at h
          cases h
          simp only [retG, ↓askB_true, ↓askB_false, beq_self_eq_true, wz, Nat.reduceAdd, Nat.reduceSub, Nat.reduceMul, Nat.reduceBEq, Nat.reduceEqDiff, Nat.reduceLeDiff, Nat.reduceLT, reduceCtorEq, g1, bc1, q1, bc2, q2, bc3, q3, bc4, x128, x128B]
      · have bc3 : (Pt.eqb a2 a3) = false := Pt.eqbF c3
        rw [if_neg c3] at h
        obtain ⟨y10, hy10, h⟩ := obind h
        have g10 : ∀ os, callX prog cfg (famT r08_Meet_fams) 68 [.agg [I a0.x, I a0.y], .agg [I a1.x, I a1.y], .agg [I a2.x, I a2.y], .agg [I a3.x, I a3.y]] (E0 os) = some (I y10, E0 os, none) := fun os => callX_fam rfl (famLook_skip rfl <| famLook_hit rfl (r08_cross_val hy10))
        by_cases c19 : y10 = 0
        · have bc19 : (y10 == 0) = true := beqT c19
          rw [if_pos c19] at h
          obtain ⟨y11, hy11, h⟩ := obind h
          have g11 : ∀ os, callX prog cfg (famT r08_Meet_fams) 68 [.agg [I a0.x, I a0.y], .agg [I a1.x, I a1.y], .agg [I a0.x, I a0.y], .agg [I a2.x, I a2.y]] (E0 os) = some (I y11, E0 os, none) := fun os => callX_fam rfl (famLook_skip rfl <| famLook_hit rfl (r08_cross_val hy11))
          by_cases c20 : ¬ y11 = 0
          · have bc20 : (y11 != 0) = true := bneT c20
            rw [if_pos c20] at h
            cases h
            simp only [retG, ↓askB_true, ↓askB_false, beq_self_eq_true, wz, Nat.reduceAdd, Nat.reduceSub, Nat.reduceMul, Nat.reduceBEq, Nat.reduceEqDiff, Nat.reduceLeDiff, Nat.reduceLT, reduceCtorEq, g1, bc1, q1, bc2, q2, bc3, g10, bc19, g11, bc20, x128, x128B]
          · have bc20 : (y11 != 0) = false := bneF_ c20
            rw [if_neg c20] at h
            obtain ⟨y12, hy12, h⟩ := obind h
            have g12 : ∀ os, callX prog cfg (famT r08_Meet_fams) 68 [.agg [I a0.x, I a0.y], .agg [I a1.x, I a1.y], .agg [I a0.x, I a0.y], .agg [I a3.x, I a3.y]] (E0 os) = some (I y12, E0 os, none) := fun os => callX_fam rfl (famLook_skip rfl <| famLook_hit rfl (r08_cross_val hy12))
            by_cases c21 : ¬ y12 = 0
            · have bc21 : (y12 != 0) = true := bneT c21
              rw [if_pos c21] at h
              cases h
              simp only [retG, ↓askB_true, ↓askB_false, beq_self_eq_true, wz, Nat.reduceAdd, Nat.reduceSub, Nat.reduceMul, Nat.reduceBEq, Nat.reduceEqDiff, Nat.reduceLeDiff, Nat.reduceLT, reduceCtorEq, g1, bc1, q1, bc2, q2, bc3, g10, bc19, g11, bc20, g12, bc21, x128, x128B]
            · have bc21 : (y12 != 0) = false := bneF_ c21
              rw [if_neg c21] at h
              obtain ⟨y13, hy13, h⟩ := obind h
              have g13 : ∀ os, callX prog cfg (famT r08_Meet_fams) 68 [.agg [I a2.x, I a2.y], .agg [I a3.x, I a3.y], .agg [I a2.x, I a2.y], .agg [I a0.x, I a0.y]] (E0 os) = some (I y13, E0 os, none) := fun os => callX_fam rfl (famLook_skip rfl <| famLook_hit rfl (r08_cross_val hy13))
              by_cases c22 : ¬ y13 = 0
              · have bc22 : (y13 != 0) = true := bneT c22
                rw [if_pos c22] at h
                cases h
                simp only [retG, ↓askB_true, ↓askB_false, beq_self_eq_true, wz, Nat.reduceAdd, Nat.reduceSub, Nat.reduceMul, Nat.reduceBEq, Nat.reduceEqDiff, Nat.reduceLeDiff, Nat.reduceLT, reduceCtorEq, g1, bc1, q1, bc2, q2, bc3, g10, bc19, g11, bc20, g12, bc21, g13, bc22, x128, x128B]
              · have bc22 : (y13 != 0) = false := bneF_ c22
                rw [if_neg c22] at h
                obtain ⟨y14, hy14, h⟩ := obind h
                have g14 : ∀ os, callX prog cfg (famT r08_Meet_fams) 68 [.agg [I a2.x, I a2.y], .agg [I a3.x, I a3.y], .agg [I a2.x, I a2.y], .agg [I a1.x, I a1.y]] (E0 os) = some (I y14, E0 os, none) := fun os => callX_fam rfl (famLook_skip rfl <| famLook_hit rfl (r08_cross_val hy14))
                by_cases c23 : ¬ y14 = 0
                · have bc23 : (y14 != 0) = true := bneT c23
                  rw [if_pos c23] at h
                  cases h
                  simp only [retG, ↓askB_true, ↓askB_false, beq_self_eq_true, wz, Nat.reduceAdd, Nat.reduceSub, Nat.reduceMul, Nat.reduceBEq, Nat.reduceEqDiff, Nat.reduceLeDiff, Nat.reduceLT, reduceCtorEq, g1, bc1, q1, bc2, q2, bc3, g10, bc19, g11, bc20, g12, bc21, g13, bc22, g14, bc23, x128, x128B]
                · have bc23 : (y14 != 0) = false := bneF_ c23
                  rw [if_neg c23] at h
                  obtain ⟨y15, hy15, h⟩ := obind h
                  have g15 : ∀ os, callX prog cfg (famT r08_Meet_fams) 150 [.agg [I a0.x, I a0.y], .agg [I a1.x, I a1.y], .agg [I a2.x, I a2.y], .agg [I a3.x, I a3.y]] (E0 os) = some (I y15, E0 os, none) := fun os => callX_fam rfl (famLook_skip rfl <| famLook_skip rfl <| famLook_hit rfl (r08_shared_val hy15))
                  cases h
                  simp only [retG, ↓askB_true, ↓askB_false, beq_self_eq_true, wz, Nat.reduceAdd, Nat.reduceSub, Nat.reduceMul, Nat.reduceBEq, Nat.reduceEqDiff, Nat.reduceLeDiff, Nat.reduceLT, reduceCtorEq, g1, bc1, q1, bc2, q2, bc3, g10, bc19, g11, bc20, g12, bc21, g13, bc22, g14, bc23, g15, x128, x128B]
        · have bc19 : (y10 == 0) = false := beqF c19
          rw [if_neg c19] at h
          obtain ⟨y16, hy16, h⟩ := obind h
          have g16 : ∀ os, callX prog cfg (famT r08_Meet_fams) 68 [.agg [I a0.x, I a0.y], .agg [I a2.x, I a2.y], .agg [I a2.x, I a2.y], .agg [I a3.x, I a3.y]] (E0 os) = some (I y16, E0 os, none) := fun os => callX_fam rfl (famLook_skip rfl <| famLook_hit rfl (r08_cross_val hy16))
          obtain ⟨y17, hy17, h⟩ := obind h
          have g17 : ∀ os, callX prog cfg (famT r08_Meet_fams) 68 [.agg [I a0.x, I a0.y], .agg [I a2.x, I a2.y], .agg [I a0.x, I a0.y], .agg [I a1.x, I a1.y]] (E0 os) = some (I y17, E0 os, none) := fun os => callX_fam rfl (famLook_skip rfl <| famLook_hit rfl (r08_cross_val hy17))
          by_cases c24 : y10 < 0
          · have bc24 : (decide (y10 < 0)) = true := decT c24
            rw [if_pos c24] at h
            by_cases c25 : (w64 (0 - y16)) ≥ 0
            · have bc25 : (decide ((w64 (0 - y16)) ≥ 0)) = true := decT c25
              rw [if_pos c25] at h
              by_cases c26 : (w64 (0 - y16)) ≤ (w64 (0 - y10))
              · have bc26 : (decide ((w64 (0 - y16)) ≤ (w64 (0 - y10)))) = true := decT c26
                rw [if_pos c26] at h
                by_cases c27 : (w64 (0 - y17)) ≥ 0
                · have bc27 : (decide ((w64 (0 - y17)) ≥ 0)) = true := decT c27
                  rw [if_pos c27] at h
                  by_cases c28 : (w64 (0 - y17)) ≤ (w64 (0 - y10))
                  · have bc28 : (decide ((w64 (0 - y17)) ≤ (w64 (0 - y10)))) = true := decT c28
                    rw [if_pos c28] at h
                    cases h
                    simp only [retG, ↓askB_true, ↓askB_false, beq_self_eq_true, wz, Nat.reduceAdd, Nat.reduceSub, Nat.reduceMul, Nat.reduceBEq, Nat.reduceEqDiff, Nat.reduceLeDiff, Nat.reduceLT, reduceCtorEq, g1, bc1, q1, bc2, q2, bc3, g10, bc19, g16, g17, bc24, bc25, bc26, bc27, bc28, x128, x128B]
                  · have bc28 : (decide ((w64 (0 - y17)) ≤ (w64 (0 - y10)))) = false := decF c28
                    rw [if_neg c28] at h
                    cases h
                    simp only [retG, ↓askB_true, ↓askB_false, beq_self_eq_true, wz, Nat.reduceAdd, Nat.reduceSub, Nat.reduceMul, Nat.reduceBEq, Nat.reduceEqDiff, Nat.reduceLeDiff, Nat.reduceLT, reduceCtorEq, g1, bc1, q1, bc2, q2, bc3, g10, bc19, g16, g17, bc24, bc25, bc26, bc27, bc28, x128, x128B]
                · have bc27 : (decide ((w64 (0 - y17)) ≥ 0)) = false := decF c27
                  rw [if_neg c27] at h
                  cases h
                  simp only [retG, ↓askB_true, ↓askB_false, beq_self_eq_true, wz, Nat.reduceAdd, Nat.reduceSub, Nat.reduceMul, Nat.reduceBEq, Nat.reduceEqDiff, Nat.reduceLeDiff, Nat.reduceLT, reduceCtorEq, g1, bc1, q1, bc2, q2, bc3, g10, bc19, g16, g17, bc24, bc25, bc26, bc27, x128, x128B]
              · have bc26 : (decide ((w64 (0 - y16)) ≤ (w64 (0 - y10)))) = false := decF c26
                rw [if_neg c26] at h
                cases h
                simp only [retG, ↓askB_true, ↓askB_false, beq_self_eq_true, wz, Nat.reduceAdd, Nat.reduceSub, Nat.reduceMul, Nat.reduceBEq, Nat.reduceEqDiff, Nat.reduceLeDiff, Nat.reduceLT, reduceCtorEq, g1, bc1, q1, bc2, q2, bc3, g10, bc19, g16, g17, bc24, bc25, bc26, x128, x128B]
            · have bc25 : (decide ((w64 (0 - y16)) ≥ 0)) = false := decF c25
              rw [if_neg c25] at h
              cases h
              simp only [retG, ↓askB_true, ↓askB_false, beq_self_eq_true, wz, Nat.reduceAdd, Nat.reduceSub, Nat.reduceMul, Nat.reduceBEq, Nat.reduceEqDiff, Nat.reduceLeDiff, Nat.reduceLT, reduceCtorEq, g1, bc1, q1, bc2, q2, bc3, g10, bc19, g16, g17, bc24, bc25, x128, x128B]
          · have bc24 : (decide (y10 < 0)) = false := decF c24
            rw [if_neg c24] at h
            by_cases c29 : y16 ≥ 0
            · have bc29 : (decide (y16 ≥ 0)) = true := decT c29
              rw [if_pos c29] at h
              by_cases c30 : y16 ≤ y10
              · have bc30 : (decide (y16 ≤ y10)) = true := decT c30
                rw [if_pos c30] at h
                by_cases c31 : y17 ≥ 0
                · have bc31 : (decide (y17 ≥ 0)) = true := decT c31
                  rw [if_pos c31] at h
                  by_cases c32 : y17 ≤ y10
                  · have bc32 : (decide (y17 ≤ y10)) = true := decT c32
                    rw [if_pos c32] at h
                    cases h
                    simp only [retG, ↓askB_true, ↓askB_false, beq_self_eq_true, wz, Nat.reduceAdd, Nat.reduceSub, Nat.reduceMul, Nat.reduceBEq, Nat.reduceEqDiff, Nat.reduceLeDiff, Nat.reduceLT, reduceCtorEq, g1, bc1, q1, bc2, q2, bc3, g10, bc19, g16, g17, bc24, bc29, bc30, bc31, bc32, x128, x128B]
                  · have bc32 : (decide (y17 ≤ y10)) = false := decF c32
                    rw [if_neg c32] at h
                    cases h
                    simp only [retG, ↓askB_true, ↓askB_false, beq_self_eq_true, wz, Nat.reduceAdd, Nat.reduceSub, Nat.reduceMul, Nat.reduceBEq, Nat.reduceEqDiff, Nat.reduceLeDiff, Nat.reduceLT, reduceCtorEq, g1, bc1, q1, bc2, q2, bc3, g10, bc19, g16, g17, bc24, bc29, bc30, bc31, bc32, x128, x128B]
                · have bc31 : (decide (y17 ≥ 0)) = false := decF c31
                  rw [if_neg c31] at h
                  cases h
                  simp only [retG, ↓askB_true, ↓askB_false, beq_self_eq_true, wz, Nat.reduceAdd, Nat.reduceSub, Nat.reduceMul, Nat.reduceBEq, Nat.reduceEqDiff, Nat.reduceLeDiff, Nat.reduceLT, reduceCtorEq, g1, bc1, q1, bc2, q2, bc3, g10, bc19, g16, g17, bc24, bc29, bc30, bc31, x128, x128B]
              · have bc30 : (decide (y16 ≤ y10)) = false := decF c30
                rw [if_neg c30] at h
                cases h
                simp only [retG, ↓askB_true, ↓askB_false, beq_self_eq_true, wz, Nat.reduceAdd, Nat.reduceSub, Nat.reduceMul, Nat.reduceBEq, Nat.reduceEqDiff, Nat.reduceLeDiff, Nat.reduceLT, reduceCtorEq, g1, bc1, q1, bc2, q2, bc3, g10, bc19, g16, g17, bc24, bc29, bc30, x128, x128B]
            · have bc29 : (decide (y16 ≥ 0)) = false := decF c29
              rw [if_neg c29] at h
              cases h
              simp only [retG, ↓askB_true, ↓askB_false, beq_self_eq_true, wz, Nat.reduceAdd, Nat.reduceSub, Nat.reduceMul, Nat.reduceBEq, Nat.reduceEqDiff, Nat.reduceLeDiff, Nat.reduceLT, reduceCtorEq, g1, bc1, q1, bc2, q2, bc3, g10, bc19, g16, g17, bc24, bc29, x128, x128B]
    · have bc2 : (Pt.eqb a0 a1) = false := Pt.eqbF c2
      rw [if_neg c2] at h
      obtain ⟨y18, hy18, h⟩ := obind h
      have g18 : ∀ os, callX prog cfg (famT r08_Meet_fams) 68 [.agg [I a0.x, I a0.y], .agg [I a1.x, I a1.y], .agg [I a2.x, I a2.y], .agg [I a3.x, I a3.y]] (E0 os) = some (I y18, E0 os, none) := fun os => callX_fam rfl (famLook_skip rfl <| famLook_hit rfl (r08_cross_val hy18))
      by_cases c33 : y18 = 0
      · have bc33 : (y18 == 0) = true := beqT c33
        rw [if_pos c33] at h
        obtain ⟨y19, hy19, h⟩ := obind h
        have g19 : ∀ os, callX prog cfg (famT r08_Meet_fams) 68 [.agg [I a0.x, I a0.y], .agg [I a1.x, I a1.y], .agg [I a0.x, I a0.y], .agg [I a2.x, I a2.y]] (E0 os) = some (I y19, E0 os, none) := fun os => callX_fam rfl (famLook_skip rfl <| famLook_hit rfl (r08_cross_val hy19))
        by_cases c34 : ¬ y19 = 0
        · have bc34 : (y19 != 0) = true := bneT c34
          rw [if_pos c34] at h
          cases h
          simp only [retG, ↓askB_true, ↓askB_false, beq_self_eq_true, wz, Nat.reduceAdd, Nat.reduceSub, Nat.reduceMul, Nat.reduceBEq, Nat.reduceEqDiff, Nat.reduceLeDiff, Nat.reduceLT, reduceCtorEq, g1, bc1, q1, bc2, g18, bc33, g19, bc34, x128, x128B]
        · have bc34 : (y19 != 0) = false := bneF_ c34
          rw [if_neg c34] at h
          obtain ⟨y20, hy20, h⟩ := obind h
          have g20 : ∀ os, callX prog cfg (famT r08_Meet_fams) 68 [.agg [I a0.x, I a0.y], .agg [I a1.x, I a1.y], .agg [I a0.x, I a0.y], .agg [I a3.x, I a3.y]] (E0 os) = some (I y20, E0 os, none) := fun os => callX_fam rfl (famLook_skip rfl <| famLook_hit rfl (r08_cross_val hy20))
          by_cases c35 : ¬ y20 = 0
          · have bc35 : (y20 != 0) = true := bneT c35
            rw [if_pos c35] at h
            cases h
            simp only [retG, ↓askB_true, ↓askB_false, beq_self_eq_true, wz, Nat.reduceAdd, Nat.reduceSub, Nat.reduceMul, Nat.reduceBEq, Nat.reduceEqDiff, Nat.reduceLeDiff, Nat.reduceLT, reduceCtorEq, g1, bc1, q1, bc2, g18, bc33, g19, bc34, g20, bc35, x128, x128B]
          · have bc35 : (y20 != 0) = false := bneF_ c35
            rw [if_neg c35] at h
            obtain ⟨y21, hy21, h⟩ := obind h
            have g21 : ∀ os, callX prog cfg (famT r08_Meet_fams) 68 [.agg [I a2.x, I a2.y], .agg [I a3.x, I a3.y], .agg [I a2.x, I a2.y], .agg [I a0.x, I a0.y]] (E0 os) = some (I y21, E0 os, none) := fun os => callX_fam rfl (famLook_skip rfl <| famLook_hit rfl (r08_cross_val hy21))
            by_cases c36 : ¬ y21 = 0
            · have bc36 : (y21 != 0) = true := bneT c36
              rw [if_pos c36] at h
              cases h
              simp only [retG, ↓askB_true, ↓askB_false, beq_self_eq_true, wz, Nat.reduceAdd, Nat.reduceSub, Nat.reduceMul, Nat.reduceBEq, Nat.reduceEqDiff, Nat.reduceLeDiff, Nat.reduceLT, reduceCtorEq, g1, bc1, q1, bc2, g18, bc33, g19, bc34, g20, bc35, g21, bc36, x128, x128B]
            · have bc36 : (y21 != 0) = false := bneF_ c36
              rw [if_neg c36] at h
              obtain ⟨y22, hy22, h⟩ := obind h
              have g22 : ∀ os, callX prog cfg (famT r08_Meet_fams) 68 [.agg [I a2.x, I a2.y], .agg [I a3.x, I a3.y], .agg [I a2.x, I a2.y], .agg [I a1.x, I a1.y]] (E0 os) = some (I y22, E0 os, none) := fun os => callX_fam rfl (famLook_skip rfl <| famLook_hit rfl (r08_cross_val hy22))
              by_cases c37 : ¬ y22 = 0
              · have bc37 : (y22 != 0) = true := bneT c37
                rw [if_pos c37] at h
                cases h
                simp only [retG, ↓askB_true, ↓askB_false, beq_self_eq_true, wz, Nat.reduceAdd, Nat.reduceSub, Nat.reduceMul, Nat.reduceBEq, Nat.reduceEqDiff, Nat.reduceLeDiff, Nat.reduceLT, reduceCtorEq, g1, bc1, q1, bc2, g18, bc33, g19, bc34, g20, bc35, g21, bc36, g22, bc37, x128, x128B]
              · have bc37 : (y22 != 0) = false := bneF_ c37
                rw [if_neg c37] at h
                obtain ⟨y23, hy23, h⟩ := obind h
                have g23 : ∀ os, callX prog cfg (famT r08_Meet_fams) 150 [.agg [I a0.x, I a0.y], .agg [I a1.x, I a1.y], .agg [I a2.x, I a2.y], .agg [I a3.x, I a3.y]] (E0 os) = some (I y23, E0 os, none) := fun os => callX_fam rfl (famLook_skip rfl <| famLook_skip rfl <| famLook_hit rfl (r08_shared_val hy23))
                cases h
                simp only [retG, ↓askB_true, ↓askB_false, beq_self_eq_true, wz, Nat.reduceAdd, Nat.reduceSub, Nat.reduceMul, Nat.reduceBEq, Nat.reduceEqDiff, Nat.reduceLeDiff, Nat.reduceLT, reduceCtorEq, g1, bc1, q1, bc2, g18, bc33, g19, bc34, g20, bc35, g21, bc36, g22, bc37, g23, x128, x128B]
      · have bc33 : (y18 == 0) = false := beqF c33
        rw [if_neg c33] at h
        obtain ⟨y24, hy24, h⟩ := obind h
        have g24 : ∀ os, callX prog cfg (famT r08_Meet_fams) 68 [.agg [I a0.x, I a0.y], .agg [I a2.x, I a2.y], .agg [I a2.x, I a2.y], .agg [I a3.x, I a3.y]] (E0 os) = some (I y24, E0 os, none) := fun os => callX_fam rfl (famLook_skip rfl <| famLook_hit rfl (r08_cross_val hy24))
        obtain ⟨y25, hy25, h⟩ := obind h
        have g25 : ∀ os, callX prog cfg (famT r08_Meet_fams) 68 [.agg [I a0.x, I a0.y], .agg [I a2.x, I a2.y], .agg [I a0.x, I a0.y], .agg [I a1.x, I a1.y]] (E0 os) = some (I y25, E0 os, none) := fun os => callX_fam rfl (famLook_skip rfl <| famLook_hit rfl (r08_cross_val hy25))
        by_cases c38 : y18 < 0
        · have bc38 : (decide (y18 < 0)) = true := decT c38
          rw [if_pos c38] at h
          by_cases c39 : (w64 (0 - y24)) ≥ 0
          · have bc39 : (decide ((w64 (0 - y24)) ≥ 0)) = true := decT c39
            rw [if_pos c39] at h
            by_cases c40 : (w64 (0 - y24)) ≤ (w64 (0 - y18))
            · have bc40 : (decide ((w64 (0 - y24)) ≤ (w64 (0 - y18)))) = true := decT c40
              rw [if_pos c40] at h
              by_cases c41 : (w64 (0 - y25)) ≥ 0
              · have bc41 : (decide ((w64 (0 - y25)) ≥ 0)) = true := decT c41
                rw [if_pos c41] at h
                by_cases c42 : (w64 (0 - y25)) ≤ (w64 (0 - y18))
                · have bc42 : (decide ((w64 (0 - y25)) ≤ (w64 (0 - y18)))) = true := decT c42
                  rw [if_pos c42] at h
                  cases h
                  simp only [retG, ↓askB_true, ↓askB_false, beq_self_eq_true, wz, Nat.reduceAdd, Nat.reduceSub, Nat.reduceMul, Nat.reduceBEq, Nat.reduceEqDiff, Nat.reduceLeDiff, Nat.reduceLT, reduceCtorEq, g1, bc1, q1, bc2, g18, bc33, g24, g25, bc38, bc39, bc40, bc41, bc42, x128, x128B]
                · have bc42 : (decide ((w64 (0 - y25)) ≤ (w64 (0 - y18)))) = false := decF c42
                  rw [if_neg c42] at h
                  cases h
                  simp only [retG, ↓askB_true, ↓askB_false, beq_self_eq_true, wz, Nat.reduceAdd, Nat.reduceSub, Nat.reduceMul, Nat.reduceBEq, Nat.reduceEqDiff, Nat.reduceLeDiff, Nat.reduceLT, reduceCtorEq, g1, bc1, q1, bc2, g18, bc33, g24, g25, bc38, bc39, bc40, bc41, bc42, x128, x128B]
              · have bc41 : (decide ((w64 (0 - y25)) ≥ 0)) = false := decF c41
                rw [if_neg c41] at h
                cases h
                simp only [retG, ↓askB_true, ↓askB_false, beq_self_eq_true, wz, Nat.reduceAdd, Nat.reduceSub, Nat.reduceMul, Nat.reduceBEq, Nat.reduceEqDiff, Nat.reduceLeDiff, Nat.reduceLT, reduceCtorEq, g1, bc1, q1, bc2, g18, bc33, g24, g25, bc38, bc39, bc40, bc41, x128, x128B]
            · have bc40 : (decide ((w64 (0 - y24)) ≤ (w64 (0 - y18)))) = false := decF c40
              rw [if_neg c40] at h
              cases h
              simp only [retG, ↓askB_true, ↓askB_false, beq_self_eq_true, wz, Nat.reduceAdd, Nat.reduceSub, Nat.reduceMul, Nat.reduceBEq, Nat.reduceEqDiff, Nat.reduceLeDiff, Nat.reduceLT, reduceCtorEq, g1, bc1, q1, bc2, g18, bc33, g24, g25, bc38, bc39, bc40, x128, x128B]
          · have bc39 : (decide ((w64 (0 - y24)) ≥ 0)) = false := decF c39
            rw [if_neg c39] at h
            cases h
            simp only [retG, ↓askB_true, ↓askB_false, beq_self_eq_true, wz, Nat.reduceAdd, Nat.reduceSub, Nat.reduceMul, Nat.reduceBEq, Nat.reduceEqDiff, Nat.reduceLeDiff, Nat.reduceLT, reduceCtorEq, g1, bc1, q1, bc2, g18, bc33, g24, g25, bc38, bc39, x128, x128B]
        · have bc38 : (decide (y18 < 0)) = false := decF c38
          rw [if_neg c38] at h
          by_cases c43 : y24 ≥ 0
          · have bc43 : (decide (y24 ≥ 0)) = true := decT c43
            rw [if_pos c43] at h
            by_cases c44 : y24 ≤ y18
            · have bc44 : (decide (y24 ≤ y18)) = true := decT c44
              rw [if_pos c44] at h
              by_cases c45 : y25 ≥ 0
              · have bc45 : (decide (y25 ≥ 0)) = true := decT c45
                rw [if_pos c45] at h
                by_cases c46 : y25 ≤ y18
                · have bc46 : (decide (y25 ≤ y18)) = true := decT c46
                  rw [if_pos c46] at h
                  cases h
                  simp only [retG, ↓askB_true, ↓askB_false, beq_self_eq_true, wz, Nat.reduceAdd, Nat.reduceSub, Nat.reduceMul, Nat.reduceBEq, Nat.reduceEqDiff, Nat.reduceLeDiff, Nat.reduceLT, reduceCtorEq, g1, bc1, q1, bc2, g18, bc33, g24, g25, bc38, bc43, bc44, bc45, bc46, x128, x128B]
                · have bc46 : (decide (y25 ≤ y18)) = false := decF c46
                  rw [if_neg c46] at h
                  cases h
                  simp only [retG, ↓askB_true, ↓askB_false, beq_self_eq_true, wz, Nat.reduceAdd, Nat.reduceSub, Nat.reduceMul, Nat.reduceBEq, Nat.reduceEqDiff, Nat.reduceLeDiff, Nat.reduceLT, reduceCtorEq, g1, bc1, q1, bc2, g18, bc33, g24, g25, bc38, bc43, bc44, bc45, bc46, x128, x128B]
              · have bc45 : (decide (y25 ≥ 0)) = false := decF c45
                rw [if_neg c45] at h
                cases h
                simp only [retG, ↓askB_true, ↓askB_false, beq_self_eq_true, wz, Nat.reduceAdd, Nat.reduceSub, Nat.reduceMul, Nat.reduceBEq, Nat.reduceEqDiff, Nat.reduceLeDiff, Nat.reduceLT, reduceCtorEq, g1, bc1, q1, bc2, g18, bc33, g24, g25, bc38, bc43, bc44, bc45, x128, x128B]
            · have bc44 : (decide (y24 ≤ y18)) = false := decF c44
              rw [if_neg c44] at h
              cases h
              simp only [retG, ↓askB_true, ↓askB_false, beq_self_eq_true, wz, Nat.reduceAdd, Nat.reduceSub, Nat.reduceMul, Nat.reduceBEq, Nat.reduceEqDiff, Nat.reduceLeDiff, Nat.reduceLT, reduceCtorEq, g1, bc1, q1, bc2, g18, bc33, g24, g25, bc38, bc43, bc44, x128, x128B]
          · have bc43 : (decide (y24 ≥ 0)) = false := decF c43
            rw [if_neg c43] at h
            cases h
            simp only [retG, ↓askB_true, ↓askB_false, beq_self_eq_true, wz, Nat.reduceAdd, Nat.reduceSub, Nat.reduceMul, Nat.reduceBEq, Nat.reduceEqDiff, Nat.reduceLeDiff, Nat.reduceLT, reduceCtorEq, g1, bc1, q1, bc2, g18, bc33, g24, g25, bc38, bc43, x128, x128B]
  · have bc1 : (y1) = false := boolF c1
    rw [if_neg c1] at h
    cases h
    simp only [retG, ↓askB_true, ↓askB_false, beq_self_eq_true, wz, Nat.reduceAdd, Nat.reduceSub, Nat.reduceMul, Nat.reduceBEq, Nat.reduceEqDiff, Nat.reduceLeDiff, Nat.reduceLT, reduceCtorEq, g1, bc1, x128, x128B]

noncomputable def r08_Meet_fam : Fam := famC prog cfg (famT r08_Meet_fams) 128
theorem r08_Meet_val {a0 : Pt} {a1 : Pt} {a2 : Pt} {a3 : Pt} {r : Int} (h : r08_Meet a0 a1 a2 a3 = some r) : r08_Meet_fam.val [.agg [I a0.x, I a0.y], .agg [I a1.x, I a1.y], .agg [I a2.x, I a2.y], .agg [I a3.x, I a3.y]] = some (.flat (I r)) := famC_flat (r08_Meet_ok h) rfl rfl
def r08_Meet_At (fams : List Fam) : Prop := ∀  {a0 : Pt} {a1 : Pt} {a2 : Pt} {a3 : Pt} {r : Int} {xs_ : List TV} {os os1 : List TO}, r08_Meet a0 a1 a2 a3 = some r → argsT false (E0 os) xs_ = some ([.agg [I a0.x, I a0.y], .agg [I a1.x, I a1.y], .agg [I a2.x, I a2.y], .agg [I a3.x, I a3.y]], E0 os1) → callX prog cfg (famT fams) 128 xs_ (E0 os) = some (I r, E0 os1, none)
theorem r08_Meet_goods : ∀ x, x ∈ r08_Meet_fams → x.Good prog := (goodsC r08_Near_good (goodsC r08_cross_good (goodsC r08_shared_good goods0)))
theorem r08_Meet_good : r08_Meet_fam.Good prog := famC_good sound r08_Meet_goods
/- 90: mapsheets/mapsheetsref14.apart -/
noncomputable def r14_apart_fams : List Fam := [r08_Meet_fam]
noncomputable def r14_apart (a0 : r14_Segment) (a1 : r14_Segment) : Option (Bool) := ((r08_Meet a0.A a0.B a1.A a1.B).bind fun y1 => (if a1.I = (w64 (a0.I + 1)) then some (y1 == 1) else (if a0.I = 0 then (if a1.I = (w64 (a1.N - 1)) then (if a0.Arc.frm = a0.Arc.to then some (y1 == 1) else some (y1 == 0)) else some (y1 == 0)) else some (y1 == 0))))
theorem r14_apart_ok {a0 : r14_Segment} {a1 : r14_Segment} {r : Bool} (h : r14_apart a0 a1 = some r) : callL prog cfg (famT r14_apart_fams) 90 [.agg [I a0.Arc.id, I a0.Arc.frm, I a0.Arc.to, .r (.lst (List.map Pt.e a0.Arc.via) none), I a0.Arc.left, I a0.Arc.right, I a0.I, I a0.N, I a0.A.x, I a0.A.y, I a0.B.x, I a0.B.y], .agg [I a1.Arc.id, I a1.Arc.frm, I a1.Arc.to, .r (.lst (List.map Pt.e a1.Arc.via) none), I a1.Arc.left, I a1.Arc.right, I a1.I, I a1.N, I a1.A.x, I a1.A.y, I a1.B.x, I a1.B.y]] (E0 []) = some (B r, E0 [], none) := by
  refine callL_wpG cx90 (ax := [.agg [I a0.Arc.id, I a0.Arc.frm, I a0.Arc.to, .r (.lst (List.map Pt.e a0.Arc.via) none), I a0.Arc.left, I a0.Arc.right, I a0.I, I a0.N, I a0.A.x, I a0.A.y, I a0.B.x, I a0.B.y], .agg [I a1.Arc.id, I a1.Arc.frm, I a1.Arc.to, .r (.lst (List.map Pt.e a1.Arc.via) none), I a1.Arc.left, I a1.Arc.right, I a1.I, I a1.N, I a1.A.x, I a1.A.y, I a1.B.x, I a1.B.y]]) rfl rfl ?_
  unfold r14_apart at h
  try dsimp only at h
  obtain ⟨y1, hy1, h⟩ := obind h
  have g1 : ∀ os, callX prog cfg (famT r14_apart_fams) 128 [.agg [I a0.A.x, I a0.A.y], .agg [I a0.B.x, I a0.B.y], .agg [I a1.A.x, I a1.A.y], .agg [I a1.B.x, I a1.B.y]] (E0 os) = some (I y1, E0 os, none) := fun os => callX_fam rfl (famLook_hit rfl (r08_Meet_val hy1))
  by_cases c1 : a1.I = (w64 (a0.I + 1))
  · have bc1 : (a1.I == (w64 (a0.I + 1))) = true := beqT c1
    rw [if_pos c1] at h
    cases h
    simp only [retG, ↓askB_true, ↓askB_false, beq_self_eq_true, wz, Nat.reduceAdd, Nat.reduceSub, Nat.reduceMul, Nat.reduceBEq, Nat.reduceEqDiff, Nat.reduceLeDiff, Nat.reduceLT, reduceCtorEq, Pt.e, g1, bc1, x90, x90B]
  · have bc1 : (a1.I == (w64 (a0.I + 1))) = false := beqF c1
    rw [if_neg c1] at h
    by_cases c2 : a0.I = 0
    · have bc2 : (a0.I == 0) = true := beqT c2
      rw [if_pos c2] at h
      by_cases c3 : a1.I = (w64 (a1.N - 1))
      · have bc3 : (a1.I == (w64 (a1.N - 1))) = true := beqT c3
        rw [if_pos c3] at h
        by_cases c4 : a0.Arc.frm = a0.Arc.to
        · have bc4 : (a0.Arc.frm == a0.Arc.to) = true := beqT c4
          rw [if_pos c4] at h
          cases h
          simp only [retG, ↓askB_true, ↓askB_false, beq_self_eq_true, wz, Nat.reduceAdd, Nat.reduceSub, Nat.reduceMul, Nat.reduceBEq, Nat.reduceEqDiff, Nat.reduceLeDiff, Nat.reduceLT, reduceCtorEq, Pt.e, g1, bc1, bc2, bc3, bc4, x90, x90B]
        · have bc4 : (a0.Arc.frm == a0.Arc.to) = false := beqF c4
          rw [if_neg c4] at h
          cases h
          simp only [retG, ↓askB_true, ↓askB_false, beq_self_eq_true, wz, Nat.reduceAdd, Nat.reduceSub, Nat.reduceMul, Nat.reduceBEq, Nat.reduceEqDiff, Nat.reduceLeDiff, Nat.reduceLT, reduceCtorEq, Pt.e, g1, bc1, bc2, bc3, bc4, x90, x90B]
      · have bc3 : (a1.I == (w64 (a1.N - 1))) = false := beqF c3
        rw [if_neg c3] at h
        cases h
        simp only [retG, ↓askB_true, ↓askB_false, beq_self_eq_true, wz, Nat.reduceAdd, Nat.reduceSub, Nat.reduceMul, Nat.reduceBEq, Nat.reduceEqDiff, Nat.reduceLeDiff, Nat.reduceLT, reduceCtorEq, Pt.e, g1, bc1, bc2, bc3, x90, x90B]
    · have bc2 : (a0.I == 0) = false := beqF c2
      rw [if_neg c2] at h
      cases h
      simp only [retG, ↓askB_true, ↓askB_false, beq_self_eq_true, wz, Nat.reduceAdd, Nat.reduceSub, Nat.reduceMul, Nat.reduceBEq, Nat.reduceEqDiff, Nat.reduceLeDiff, Nat.reduceLT, reduceCtorEq, Pt.e, g1, bc1, bc2, x90, x90B]

noncomputable def r14_apart_fam : Fam := famC prog cfg (famT r14_apart_fams) 90
theorem r14_apart_val {a0 : r14_Segment} {a1 : r14_Segment} {r : Bool} (h : r14_apart a0 a1 = some r) : r14_apart_fam.val [.agg [I a0.Arc.id, I a0.Arc.frm, I a0.Arc.to, .r (.lst (List.map Pt.e a0.Arc.via) none), I a0.Arc.left, I a0.Arc.right, I a0.I, I a0.N, I a0.A.x, I a0.A.y, I a0.B.x, I a0.B.y], .agg [I a1.Arc.id, I a1.Arc.frm, I a1.Arc.to, .r (.lst (List.map Pt.e a1.Arc.via) none), I a1.Arc.left, I a1.Arc.right, I a1.I, I a1.N, I a1.A.x, I a1.A.y, I a1.B.x, I a1.B.y]] = some (.flat (B r)) := famC_flat (r14_apart_ok h) rfl rfl
def r14_apart_At (fams : List Fam) : Prop := ∀  {a0 : r14_Segment} {a1 : r14_Segment} {r : Bool} {xs_ : List TV} {os os1 : List TO}, r14_apart a0 a1 = some r → argsT false (E0 os) xs_ = some ([.agg [I a0.Arc.id, I a0.Arc.frm, I a0.Arc.to, .r (.lst (List.map Pt.e a0.Arc.via) none), I a0.Arc.left, I a0.Arc.right, I a0.I, I a0.N, I a0.A.x, I a0.A.y, I a0.B.x, I a0.B.y], .agg [I a1.Arc.id, I a1.Arc.frm, I a1.Arc.to, .r (.lst (List.map Pt.e a1.Arc.via) none), I a1.Arc.left, I a1.Arc.right, I a1.I, I a1.N, I a1.A.x, I a1.A.y, I a1.B.x, I a1.B.y]], E0 os1) → callX prog cfg (famT fams) 90 xs_ (E0 os) = some (B r, E0 os1, none)
theorem r14_apart_goods : ∀ x, x ∈ r14_apart_fams → x.Good prog := (goodsC r08_Meet_good goods0)
theorem r14_apart_good : r14_apart_fam.Good prog := famC_good sound r14_apart_goods
/- 129: mapsheets/mapsheetsref14.ends -/
noncomputable def r14_ends_fams : List Fam := []
noncomputable def r14_ends (a0 : Arc) (a1 : Int) : Option (Bool) := (if a0.frm = a1 then some true else some (a0.to == a1))
theorem r14_ends_ok {a0 : Arc} {a1 : Int} {r : Bool} (h : r14_ends a0 a1 = some r) : callL prog cfg (famT r14_ends_fams) 129 [.agg [I a0.id, I a0.frm, I a0.to, .r (.lst (List.map Pt.e a0.via) none), I a0.left, I a0.right], I a1] (E0 []) = some (B r, E0 [], none) := by
  refine callL_wpG cx129 (ax := [.agg [I a0.id, I a0.frm, I a0.to, .r (.lst (List.map Pt.e a0.via) none), I a0.left, I a0.right], I a1]) rfl rfl ?_
  unfold r14_ends at h
  try dsimp only at h
  by_cases c1 : a0.frm = a1
  · have bc1 : (a0.frm == a1) = true := beqT c1
    rw [if_pos c1] at h
    cases h
    simp only [retG, ↓askB_true, ↓askB_false, beq_self_eq_true, wz, Nat.reduceAdd, Nat.reduceSub, Nat.reduceMul, Nat.reduceBEq, Nat.reduceEqDiff, Nat.reduceLeDiff, Nat.reduceLT, reduceCtorEq, Pt.e, bc1, x129, x129B]
  · have bc1 : (a0.frm == a1) = false := beqF c1
    rw [if_neg c1] at h
    cases h
    simp only [retG, ↓askB_true, ↓askB_false, beq_self_eq_true, wz, Nat.reduceAdd, Nat.reduceSub, Nat.reduceMul, Nat.reduceBEq, Nat.reduceEqDiff, Nat.reduceLeDiff, Nat.reduceLT, reduceCtorEq, Pt.e, bc1, x129, x129B]

noncomputable def r14_ends_fam : Fam := famC prog cfg (famT r14_ends_fams) 129
theorem r14_ends_val {a0 : Arc} {a1 : Int} {r : Bool} (h : r14_ends a0 a1 = some r) : r14_ends_fam.val [.agg [I a0.id, I a0.frm, I a0.to, .r (.lst (List.map Pt.e a0.via) none), I a0.left, I a0.right], I a1] = some (.flat (B r)) := famC_flat (r14_ends_ok h) rfl rfl
def r14_ends_At (fams : List Fam) : Prop := ∀  {a0 : Arc} {a1 : Int} {r : Bool} {xs_ : List TV} {os os1 : List TO}, r14_ends a0 a1 = some r → argsT false (E0 os) xs_ = some ([.agg [I a0.id, I a0.frm, I a0.to, .r (.lst (List.map Pt.e a0.via) none), I a0.left, I a0.right], I a1], E0 os1) → callX prog cfg (famT fams) 129 xs_ (E0 os) = some (B r, E0 os1, none)
theorem r14_ends_goods : ∀ x, x ∈ r14_ends_fams → x.Good prog := goods0
theorem r14_ends_good : r14_ends_fam.Good prog := famC_good sound r14_ends_goods
/- 91: mapsheets/mapsheetsref14.joined -/
noncomputable def r14_joined_fams : List Fam := [r08_Meet_fam, r14_ends_fam, r08_On_fam]
def r14_joined_L0b (a0 : Plan) (a1 : r14_Segment) (a2 : r14_Segment) : Int → Option ((Int) ⊕ ((Unit) ⊕ (Unit))) := fun i3 => (if i3 < ((a0.nodes.length : Int)) then ((at_ a0.nodes i3).bind fun e3 => ((r14_ends a1.Arc e3.id).bind fun y10 => (if y10 = true then ((r14_ends a2.Arc e3.id).bind fun y11 => (if y11 = true then ((r08_On a1.A a1.B e3.pt).bind fun y12 => (if y12 = true then ((r08_On a2.A a2.B e3.pt).bind fun y13 => (if y13 = true then some (.inr (Sum.inl ())) else some (.inl (w64 (i3 + 1))))) else some (.inl (w64 (i3 + 1))))) else some (.inl (w64 (i3 + 1))))) else some (.inl (w64 (i3 + 1)))))) else some (.inr (Sum.inr ())))
def r14_joined_L0R (a0 : Plan) (a1 : r14_Segment) (a2 : r14_Segment) : Int → Fr → TS → Prop := fun i3 f S => S = E0 [] ∧ f 3 = .lv [.r (.lst (List.map Node.e a0.nodes) none), .r (.lst (List.map Arc.e a0.arcs) none), .r (.lst (List.map int1 a0.faces) none)] ∧ f 4 = .lv [I a1.Arc.id, I a1.Arc.frm, I a1.Arc.to, .r (.lst (List.map Pt.e a1.Arc.via) none), I a1.Arc.left, I a1.Arc.right, I a1.I, I a1.N, I a1.A.x, I a1.A.y, I a1.B.x, I a1.B.y] ∧ f 5 = .lv [I a2.Arc.id, I a2.Arc.frm, I a2.Arc.to, .r (.lst (List.map Pt.e a2.Arc.via) none), I a2.Arc.left, I a2.Arc.right, I a2.I, I a2.N, I a2.A.x, I a2.A.y, I a2.B.x, I a2.B.y] ∧ f 8 = I i3
def r14_joined_L0E (a0 : Plan) (a1 : r14_Segment) (a2 : r14_Segment) : ((Unit) ⊕ (Unit)) → TX → Fr → TS → Prop
  | (Sum.inl ()), tx, f, S => tx = TX.ret ∧ S = E0 [] ∧ f 6 = B true
  | (Sum.inr ()), tx, f, S => tx = TX.exit 0 ∧ S = E0 []
noncomputable def r14_joined_L0 (a0 : Plan) (a1 : r14_Segment) (a2 : r14_Segment) (s : Int) : Option ((Unit) ⊕ (Unit)) := loopO (r14_joined_L0b a0 a1 a2) s
theorem r14_joined_L0_ok {a0 : Plan} {a1 : r14_Segment} {a2 : r14_Segment} {s : Int} {r : (Unit) ⊕ (Unit)} {Q : TX → Fr → TS → Prop} (h : r14_joined_L0 a0 a1 a2 s = some r) {f : Fr} {S : TS} (hR : r14_joined_L0R a0 a1 a2 s f S) (hQ : ∀ tx f S, r14_joined_L0E a0 a1 a2 r tx f S → Q tx f S) : wp prog [3, 4, 5, 9] (callX prog cfg (famT r14_joined_fams)) (.loop x91L0) Q f S := by
  refine wp_loopO x91L0.eq_1 ?_ h hR hQ
  clear hQ hR h
  intro s x f S h hR
  revert h hR; revert s; intro i3 h hR
  obtain ⟨rfl, f3, f4, f5, f8⟩ := hR
  unfold r14_joined_L0b at h
  try dsimp only at h
  by_cases c12 : i3 < ((a0.nodes.length : Int))
  · have bc12 : (decide (i3 < ((a0.nodes.length : Int)))) = true := decT c12
    rw [if_pos c12] at h
    obtain ⟨e3, he3, h⟩ := obind h
    have i5 := indexSl_at (enc := Node.e) he3 (sz := 3) rfl
    obtain ⟨y10, hy10, h⟩ := obind h
    have g10 : ∀ os, callX prog cfg (famT r14_joined_fams) 129 [.agg [I a1.Arc.id, I a1.Arc.frm, I a1.Arc.to, .r (.lst (List.map Pt.e a1.Arc.via) none), I a1.Arc.left, I a1.Arc.right], I e3.id] (E0 os) = some (B y10, E0 os, none) := fun os => callX_fam rfl (famLook_skip rfl <| famLook_hit rfl (r14_ends_val hy10))
    by_cases c13 : y10 = true
    · have bc13 : (y10) = true := id c13
      rw [if_pos c13] at h
      obtain ⟨y11, hy11, h⟩ := obind h
      have g11 : ∀ os, callX prog cfg (famT r14_joined_fams) 129 [.agg [I a2.Arc.id, I a2.Arc.frm, I a2.Arc.to, .r (.lst (List.map Pt.e a2.Arc.via) none), I a2.Arc.left, I a2.Arc.right], I e3.id] (E0 os) = some (B y11, E0 os, none) := fun os => callX_fam rfl (famLook_skip rfl <| famLook_hit rfl (r14_ends_val hy11))
      by_cases c14 : y11 = true
      · have bc14 : (y11) = true := id c14
        rw [if_pos c14] at h
        obtain ⟨y12, hy12, h⟩ := obind h
        have g12 : ∀ os, callX prog cfg (famT r14_joined_fams) 127 [.agg [I a1.A.x, I a1.A.y], .agg [I a1.B.x, I a1.B.y], .agg [I e3.pt.x, I e3.pt.y]] (E0 os) = some (B y12, E0 os, none) := fun os => callX_fam rfl (famLook_skip rfl <| famLook_skip rfl <| famLook_hit rfl (r08_On_val hy12))
        by_cases c15 : y12 = true
        · have bc15 : (y12) = true := id c15
          rw [if_pos c15] at h
          obtain ⟨y13, hy13, h⟩ := obind h
          have g13 : ∀ os, callX prog cfg (famT r14_joined_fams) 127 [.agg [I a2.A.x, I a2.A.y], .agg [I a2.B.x, I a2.B.y], .agg [I e3.pt.x, I e3.pt.y]] (E0 os) = some (B y13, E0 os, none) := fun os => callX_fam rfl (famLook_skip rfl <| famLook_skip rfl <| famLook_hit rfl (r08_On_val hy13))
          by_cases c16 : y13 = true
          · have bc16 : (y13) = true := id c16
            rw [if_pos c16] at h
            cases h
            simp only [stepQ_exit, stepQ_ret, r14_joined_L0E, ↓askB_true, ↓askB_false, beq_self_eq_true, wz, Nat.reduceAdd, Nat.reduceSub, Nat.reduceMul, Nat.reduceBEq, Nat.reduceEqDiff, Nat.reduceLeDiff, Nat.reduceLT, reduceCtorEq, Arc.e, Node.e, Pt.e, int1, f3, f4, f5, f8, bc12, i5, g10, bc13, g11, bc14, g12, bc15, g13, bc16]
          · have bc16 : (y13) = false := boolF c16
            rw [if_neg c16] at h
            cases h
            simp only [stepQ_normal, r14_joined_L0R, ↓askB_true, ↓askB_false, beq_self_eq_true, wz, Nat.reduceAdd, Nat.reduceSub, Nat.reduceMul, Nat.reduceBEq, Nat.reduceEqDiff, Nat.reduceLeDiff, Nat.reduceLT, reduceCtorEq, Arc.e, Node.e, Pt.e, int1, f3, f4, f5, f8, bc12, i5, g10, bc13, g11, bc14, g12, bc15, g13, bc16]
        · have bc15 : (y12) = false := boolF c15
          rw [if_neg c15] at h
          cases h
          simp only [stepQ_normal, r14_joined_L0R, ↓askB_true, ↓askB_false, beq_self_eq_true, wz, Nat.reduceAdd, Nat.reduceSub, Nat.reduceMul, Nat.reduceBEq, Nat.reduceEqDiff, Nat.reduceLeDiff, Nat.reduceLT, reduceCtorEq, Arc.e, Node.e, Pt.e, int1, f3, f4, f5, f8, bc12, i5, g10, bc13, g11, bc14, g12, bc15]
      · have bc14 : (y11) = false := boolF c14
        rw [if_neg c14] at h
        cases h
        simp only [stepQ_normal, r14_joined_L0R, ↓askB_true, ↓askB_false, beq_self_eq_true, wz, Nat.reduceAdd, Nat.reduceSub, Nat.reduceMul, Nat.reduceBEq, Nat.reduceEqDiff, Nat.reduceLeDiff, Nat.reduceLT, reduceCtorEq, Arc.e, Node.e, Pt.e, int1, f3, f4, f5, f8, bc12, i5, g10, bc13, g11, bc14]
    · have bc13 : (y10) = false := boolF c13
      rw [if_neg c13] at h
      cases h
      simp only [stepQ_normal, r14_joined_L0R, ↓askB_true, ↓askB_false, beq_self_eq_true, wz, Nat.reduceAdd, Nat.reduceSub, Nat.reduceMul, Nat.reduceBEq, Nat.reduceEqDiff, Nat.reduceLeDiff, Nat.reduceLT, reduceCtorEq, Arc.e, Node.e, Pt.e, int1, f3, f4, f5, f8, bc12, i5, g10, bc13]
  · have bc12 : (decide (i3 < ((a0.nodes.length : Int)))) = false := decF c12
    rw [if_neg c12] at h
    cases h
    simp only [stepQ_exit, stepQ_ret, r14_joined_L0E, ↓askB_true, ↓askB_false, beq_self_eq_true, wz, Nat.reduceAdd, Nat.reduceSub, Nat.reduceMul, Nat.reduceBEq, Nat.reduceEqDiff, Nat.reduceLeDiff, Nat.reduceLT, reduceCtorEq, Arc.e, Node.e, Pt.e, int1, f3, f4, f5, f8, bc12]

noncomputable def r14_joined (a0 : Plan) (a1 : r14_Segment) (a2 : r14_Segment) : Option (Bool) := ((r08_Meet a1.A a1.B a2.A a2.B).bind fun y1 => (if ¬ y1 = 1 then some (y1 == 0) else ((r14_joined_L0 a0 a1 a2 0).bind (fun x1 => sumK x1 (fun _ => some true) (fun _ => some false)))))
theorem r14_joined_ok {a0 : Plan} {a1 : r14_Segment} {a2 : r14_Segment} {r : Bool} (h : r14_joined a0 a1 a2 = some r) : callL prog cfg (famT r14_joined_fams) 91 [.agg [.r (.lst (List.map Node.e a0.nodes) none), .r (.lst (List.map Arc.e a0.arcs) none), .r (.lst (List.map int1 a0.faces) none)], .agg [I a1.Arc.id, I a1.Arc.frm, I a1.Arc.to, .r (.lst (List.map Pt.e a1.Arc.via) none), I a1.Arc.left, I a1.Arc.right, I a1.I, I a1.N, I a1.A.x, I a1.A.y, I a1.B.x, I a1.B.y], .agg [I a2.Arc.id, I a2.Arc.frm, I a2.Arc.to, .r (.lst (List.map Pt.e a2.Arc.via) none), I a2.Arc.left, I a2.Arc.right, I a2.I, I a2.N, I a2.A.x, I a2.A.y, I a2.B.x, I a2.B.y]] (E0 []) = some (B r, E0 [], none) := by
  refine callL_wpG cx91 (ax := [.agg [.r (.lst (List.map Node.e a0.nodes) none), .r (.lst (List.map Arc.e a0.arcs) none), .r (.lst (List.map int1 a0.faces) none)], .agg [I a1.Arc.id, I a1.Arc.frm, I a1.Arc.to, .r (.lst (List.map Pt.e a1.Arc.via) none), I a1.Arc.left, I a1.Arc.right, I a1.I, I a1.N, I a1.A.x, I a1.A.y, I a1.B.x, I a1.B.y], .agg [I a2.Arc.id, I a2.Arc.frm, I a2.Arc.to, .r (.lst (List.map Pt.e a2.Arc.via) none), I a2.Arc.left, I a2.Arc.right, I a2.I, I a2.N, I a2.A.x, I a2.A.y, I a2.B.x, I a2.B.y]]) rfl rfl ?_
  unfold r14_joined at h
  try dsimp only at h
  obtain ⟨y1, hy1, h⟩ := obind h
  have g1 : ∀ os, callX prog cfg (famT r14_joined_fams) 128 [.agg [I a1.A.x, I a1.A.y], .agg [I a1.B.x, I a1.B.y], .agg [I a2.A.x, I a2.A.y], .agg [I a2.B.x, I a2.B.y]] (E0 os) = some (I y1, E0 os, none) := fun os => callX_fam rfl (famLook_hit rfl (r08_Meet_val hy1))
  by_cases c1 : ¬ y1 = 1
  · have bc1 : (y1 != 1) = true := bneT c1
    rw [if_pos c1] at h
    cases h
    simp only [retG, ↓askB_true, ↓askB_false, beq_self_eq_true, wz, Nat.reduceAdd, Nat.reduceSub, Nat.reduceMul, Nat.reduceBEq, Nat.reduceEqDiff, Nat.reduceLeDiff, Nat.reduceLT, reduceCtorEq, Arc.e, Node.e, Pt.e, int1, g1, bc1, x91, x91B]
  · have bc1 : (y1 != 1) = false := bneF_ c1
    rw [if_neg c1] at h
    obtain ⟨x1, hx1, h⟩ := obind h
    simp only [↓askB_true, ↓askB_false, beq_self_eq_true, wz, Nat.reduceAdd, Nat.reduceSub, Nat.reduceMul, Nat.reduceBEq, Nat.reduceEqDiff, Nat.reduceLeDiff, Nat.reduceLT, reduceCtorEq, Arc.e, Node.e, Pt.e, int1, g1, bc1, x91, x91B]
    refine r14_joined_L0_ok hx1 ?_ ?_
    · simp only [r14_joined_L0R, ↓askB_true, ↓askB_false, beq_self_eq_true, wz, Nat.reduceAdd, Nat.reduceSub, Nat.reduceMul, Nat.reduceBEq, Nat.reduceEqDiff, Nat.reduceLeDiff, Nat.reduceLT, reduceCtorEq, Arc.e, Node.e, Pt.e, int1, g1, bc1, x91, x91B]
    intro tx f S hE
    rcases x1 with _u | _u
    · try dsimp only [sumK] at h
      obtain ⟨rfl, rfl, f6⟩ := hE
      cases h
      simp only [retG, ↓askB_true, ↓askB_false, beq_self_eq_true, wz, Nat.reduceAdd, Nat.reduceSub, Nat.reduceMul, Nat.reduceBEq, Nat.reduceEqDiff, Nat.reduceLeDiff, Nat.reduceLT, reduceCtorEq, Arc.e, Node.e, Pt.e, int1, g1, bc1, f6]
    · try dsimp only [sumK] at h
      obtain ⟨rfl, rfl⟩ := hE
      cases h
      simp only [retG, ↓askB_true, ↓askB_false, beq_self_eq_true, wz, Nat.reduceAdd, Nat.reduceSub, Nat.reduceMul, Nat.reduceBEq, Nat.reduceEqDiff, Nat.reduceLeDiff, Nat.reduceLT, reduceCtorEq, Arc.e, Node.e, Pt.e, int1, g1, bc1]

noncomputable def r14_joined_fam : Fam := famC prog cfg (famT r14_joined_fams) 91
theorem r14_joined_val {a0 : Plan} {a1 : r14_Segment} {a2 : r14_Segment} {r : Bool} (h : r14_joined a0 a1 a2 = some r) : r14_joined_fam.val [.agg [.r (.lst (List.map Node.e a0.nodes) none), .r (.lst (List.map Arc.e a0.arcs) none), .r (.lst (List.map int1 a0.faces) none)], .agg [I a1.Arc.id, I a1.Arc.frm, I a1.Arc.to, .r (.lst (List.map Pt.e a1.Arc.via) none), I a1.Arc.left, I a1.Arc.right, I a1.I, I a1.N, I a1.A.x, I a1.A.y, I a1.B.x, I a1.B.y], .agg [I a2.Arc.id, I a2.Arc.frm, I a2.Arc.to, .r (.lst (List.map Pt.e a2.Arc.via) none), I a2.Arc.left, I a2.Arc.right, I a2.I, I a2.N, I a2.A.x, I a2.A.y, I a2.B.x, I a2.B.y]] = some (.flat (B r)) := famC_flat (r14_joined_ok h) rfl rfl
def r14_joined_At (fams : List Fam) : Prop := ∀  {a0 : Plan} {a1 : r14_Segment} {a2 : r14_Segment} {r : Bool} {xs_ : List TV} {os os1 : List TO}, r14_joined a0 a1 a2 = some r → argsT false (E0 os) xs_ = some ([.agg [.r (.lst (List.map Node.e a0.nodes) none), .r (.lst (List.map Arc.e a0.arcs) none), .r (.lst (List.map int1 a0.faces) none)], .agg [I a1.Arc.id, I a1.Arc.frm, I a1.Arc.to, .r (.lst (List.map Pt.e a1.Arc.via) none), I a1.Arc.left, I a1.Arc.right, I a1.I, I a1.N, I a1.A.x, I a1.A.y, I a1.B.x, I a1.B.y], .agg [I a2.Arc.id, I a2.Arc.frm, I a2.Arc.to, .r (.lst (List.map Pt.e a2.Arc.via) none), I a2.Arc.left, I a2.Arc.right, I a2.I, I a2.N, I a2.A.x, I a2.A.y, I a2.B.x, I a2.B.y]], E0 os1) → callX prog cfg (famT fams) 91 xs_ (E0 os) = some (B r, E0 os1, none)
theorem r14_joined_goods : ∀ x, x ∈ r14_joined_fams → x.Good prog := (goodsC r08_Meet_good (goodsC r14_ends_good (goodsC r08_On_good goods0)))
theorem r14_joined_good : r14_joined_fam.Good prog := famC_good sound r14_joined_goods
/- 61: mapsheets/mapsheetsref14.planar -/
noncomputable def r14_planar_fams : List Fam := [r14_Segments_fam, r14_alone_fam, r14_apart_fam, r14_joined_fam]
def r14_planar_L0b (a0 : Plan) (y1 : (List r14_Segment)) (i9 : Int) : Int → Option ((Int) ⊕ ((Unit) ⊕ (Unit))) := fun i21 => (if i21 < i9 then ((at_ y1 i21).bind fun e16 => ((at_ y1 i9).bind fun e17 => (if e16.Arc.id = e17.Arc.id then ((r14_apart e16 e17).bind fun y23 => (if y23 = true then (if ¬ e16.Arc.id = e17.Arc.id then ((r14_joined a0 e16 e17).bind fun y24 => (if y24 = true then some (.inl (w64 (i21 + 1))) else some (.inr (Sum.inl ())))) else some (.inl (w64 (i21 + 1)))) else some (.inr (Sum.inl ())))) else (if ¬ e16.Arc.id = e17.Arc.id then ((r14_joined a0 e16 e17).bind fun y25 => (if y25 = true then some (.inl (w64 (i21 + 1))) else some (.inr (Sum.inl ())))) else some (.inl (w64 (i21 + 1))))))) else some (.inr (Sum.inr ())))
def r14_planar_L0R (a0 : Plan) (y1 : (List r14_Segment)) (i9 : Int) : Int → Fr → TS → Prop := fun i21 f S => S = E0 [] ∧ f 1 = .lv [.r (.lst (List.map Node.e a0.nodes) none), .r (.lst (List.map Arc.e a0.arcs) none), .r (.lst (List.map int1 a0.faces) none)] ∧ f 3 = .r (.lst (List.map r14_Segment.e y1) none) ∧ f 4 = I i9 ∧ f 5 = I i21
def r14_planar_L0E (a0 : Plan) (y1 : (List r14_Segment)) (i9 : Int) : ((Unit) ⊕ (Unit)) → TX → Fr → TS → Prop
  | (Sum.inl ()), tx, f, S => tx = TX.ret ∧ S = E0 [] ∧ f 2 = B false
  | (Sum.inr ()), tx, f, S => tx = TX.exit 2 ∧ S = E0 [] ∧ f 1 = .lv [.r (.lst (List.map Node.e a0.nodes) none), .r (.lst (List.map Arc.e a0.arcs) none), .r (.lst (List.map int1 a0.faces) none)] ∧ f 3 = .r (.lst (List.map r14_Segment.e y1) none) ∧ f 4 = I i9
noncomputable def r14_planar_L0 (a0 : Plan) (y1 : (List r14_Segment)) (i9 : Int) (s : Int) : Option ((Unit) ⊕ (Unit)) := loopO (r14_planar_L0b a0 y1 i9) s
theorem r14_planar_L0_ok {a0 : Plan} {y1 : (List r14_Segment)} {i9 : Int} {s : Int} {r : (Unit) ⊕ (Unit)} {Q : TX → Fr → TS → Prop} (h : r14_planar_L0 a0 y1 i9 s = some r) {f : Fr} {S : TS} (hR : r14_planar_L0R a0 y1 i9 s f S) (hQ : ∀ tx f S, r14_planar_L0E a0 y1 i9 r tx f S → Q tx f S) : wp prog [1] (callX prog cfg (famT r14_planar_fams)) (.loop x61L0) Q f S := by
  refine wp_loopO x61L0.eq_1 ?_ h hR hQ
  clear hQ hR h
  intro s x f S h hR
  revert h hR; revert s; intro i21 h hR
  obtain ⟨rfl, f1, f3, f4, f5⟩ := hR
  unfold r14_planar_L0b at h
  try dsimp only at h
  by_cases c49 : i21 < i9
  · have bc49 : (decide (i21 < i9)) = true := decT c49
    rw [if_pos c49] at h
    obtain ⟨e16, he16, h⟩ := obind h
    have i24 := indexSl_at (enc := r14_Segment.e) he16 (sz := 12) rfl
    obtain ⟨e17, he17, h⟩ := obind h
    have i25 := indexSl_at (enc := r14_Segment.e) he17 (sz := 12) rfl
    by_cases c50 : e16.Arc.id = e17.Arc.id
    · have bc50 : (e16.Arc.id == e17.Arc.id) = true := beqT c50
      rw [if_pos c50] at h
      obtain ⟨y23, hy23, h⟩ := obind h
      have g23 : ∀ os, callX prog cfg (famT r14_planar_fams) 90 [.agg [I e16.Arc.id, I e16.Arc.frm, I e16.Arc.to, .r (.lst (List.map Pt.e e16.Arc.via) none), I e16.Arc.left, I e16.Arc.right, I e16.I, I e16.N, I e16.A.x, I e16.A.y, I e16.B.x, I e16.B.y], .agg [I e17.Arc.id, I e17.Arc.frm, I e17.Arc.to, .r (.lst (List.map Pt.e e17.Arc.via) none), I e17.Arc.left, I e17.Arc.right, I e17.I, I e17.N, I e17.A.x, I e17.A.y, I e17.B.x, I e17.B.y]] (E0 os) = some (B y23, E0 os, none) := fun os => callX_fam rfl (famLook_skip rfl <| famLook_skip rfl <| famLook_hit rfl (r14_apart_val hy23))
      by_cases c51 : y23 = true
      · have bc51 : (y23) = true := id c51
        rw [if_pos c51] at h
        by_cases c52 : ¬ e16.Arc.id = e17.Arc.id
        · have bc52 : (e16.Arc.id != e17.Arc.id) = true := bneT c52
          rw [if_pos c52] at h
          obtain ⟨y24, hy24, h⟩ := obind h
          have g24 : ∀ os, callX prog cfg (famT r14_planar_fams) 91 [.agg [.r (.lst (List.map Node.e a0.nodes) none), .r (.lst (List.map Arc.e a0.arcs) none), .r (.lst (List.map int1 a0.faces) none)], .agg [I e16.Arc.id, I e16.Arc.frm, I e16.Arc.to, .r (.lst (List.map Pt.e e16.Arc.via) none), I e16.Arc.left, I e16.Arc.right, I e16.I, I e16.N, I e16.A.x, I e16.A.y, I e16.B.x, I e16.B.y], .agg [I e17.Arc.id, I e17.Arc.frm, I e17.Arc.to, .r (.lst (List.map Pt.e e17.Arc.via) none), I e17.Arc.left, I e17.Arc.right, I e17.I, I e17.N, I e17.A.x, I e17.A.y, I e17.B.x, I e17.B.y]] (E0 os) = some (B y24, E0 os, none) := fun os => callX_fam rfl (famLook_skip rfl <| famLook_skip rfl <| famLook_skip rfl <| famLook_hit rfl (r14_joined_val hy24))
          by_cases c53 : y24 = true
          · have bc53 : (y24) = true := id c53
            rw [if_pos c53] at h
            cases h
            simp only [stepQ_normal, r14_planar_L0R, ↓askB_true, ↓askB_false, beq_self_eq_true, wz, Nat.reduceAdd, Nat.reduceSub, Nat.reduceMul, Nat.reduceBEq, Nat.reduceEqDiff, Nat.reduceLeDiff, Nat.reduceLT, reduceCtorEq, Arc.e, Node.e, Pt.e, r14_Segment.e, int1, f1, f3, f4, f5, bc49, i24, i25, bc50, g23, bc51, bc52, g24, bc53]
          · have bc53 : (y24) = false := boolF c53
            rw [if_neg c53] at h
            cases h
            simp only [stepQ_exit, stepQ_ret, r14_planar_L0E, ↓askB_true, ↓askB_false, beq_self_eq_true, wz, Nat.reduceAdd, Nat.reduceSub, Nat.reduceMul, Nat.reduceBEq, Nat.reduceEqDiff, Nat.reduceLeDiff, Nat.reduceLT, reduceCtorEq, Arc.e, Node.e, Pt.e, r14_Segment.e, int1, f1, f3, f4, f5, bc49, i24, i25, bc50, g23, bc51, bc52, g24, bc53]
        · have bc52 : (e16.Arc.id != e17.Arc.id) = false := bneF_ c52
          rw [if_neg c52] at h
          cases h
          simp only [stepQ_normal, r14_planar_L0R, ↓askB_true, ↓askB_false, beq_self_eq_true, wz, Nat.reduceAdd, Nat.reduceSub, Nat.reduceMul, Nat.reduceBEq, Nat.reduceEqDiff, Nat.reduceLeDiff, Nat.reduceLT, reduceCtorEq, Arc.e, Node.e, Pt.e, r14_Segment.e, int1, f1, f3, f4, f5, bc49, i24, i25, bc50, g23, bc51, bc52]
      · have bc51 : (y23) = false := boolF c51
        rw [if_neg c51] at h
        cases h
        simp only [stepQ_exit, stepQ_ret, r14_planar_L0E, ↓askB_true, ↓askB_false, beq_self_eq_true, wz, Nat.reduceAdd, Nat.reduceSub, Nat.reduceMul, Nat.reduceBEq, Nat.reduceEqDiff, Nat.reduceLeDiff, Nat.reduceLT, reduceCtorEq, Arc.e, Node.e, Pt.e, r14_Segment.e, int1, f1, f3, f4, f5, bc49, i24, i25, bc50, g23, bc51]
    · have bc50 : (e16.Arc.id == e17.Arc.id) = false := beqF c50
      rw [if_neg c50] at h
      by_cases c54 : ¬ e16.Arc.id = e17.Arc.id
      · have bc54 : (e16.Arc.id != e17.Arc.id) = true := bneT c54
        rw [if_pos c54] at h
        obtain ⟨y25, hy25, h⟩ := obind h
        have g25 : ∀ os, callX prog cfg (famT r14_planar_fams) 91 [.agg [.r (.lst (List.map Node.e a0.nodes) none), .r (.lst (List.map Arc.e a0.arcs) none), .r (.lst (List.map int1 a0.faces) none)], .agg [I e16.Arc.id, I e16.Arc.frm, I e16.Arc.to, .r (.lst (List.map Pt.e e16.Arc.via) none), I e16.Arc.left, I e16.Arc.right, I e16.I, I e16.N, I e16.A.x, I e16.A.y, I e16.B.x, I e16.B.y], .agg [I e17.Arc.id, I e17.Arc.frm, I e17.Arc.to, .r (.lst (List.map Pt.e e17.Arc.via) none), I e17.Arc.left, I e17.Arc.right, I e17.I, I e17.N, I e17.A.x, I e17.A.y, I e17.B.x, I e17.B.y]] (E0 os) = some (B y25, E0 os, none) := fun os => callX_fam rfl (famLook_skip rfl <| famLook_skip rfl <| famLook_skip rfl <| famLook_hit rfl (r14_joined_val hy25))
        by_cases c55 : y25 = true
        · have bc55 : (y25) = true := id c55
          rw [if_pos c55] at h
          cases h
          simp only [stepQ_normal, r14_planar_L0R, ↓askB_true, ↓askB_false, beq_self_eq_true, wz, Nat.reduceAdd, Nat.reduceSub, Nat.reduceMul, Nat.reduceBEq, Nat.reduceEqDiff, Nat.reduceLeDiff, Nat.reduceLT, reduceCtorEq, Arc.e, Node.e, Pt.e, r14_Segment.e, int1, f1, f3, f4, f5, bc49, i24, i25, bc50, bc54, g25, bc55]
        · have bc55 : (y25) = false := boolF c55
          rw [if_neg c55] at h
          cases h
          simp only [stepQ_exit, stepQ_ret, r14_planar_L0E, ↓askB_true, ↓askB_false, beq_self_eq_true, wz, Nat.reduceAdd, Nat.reduceSub, Nat.reduceMul, Nat.reduceBEq, Nat.reduceEqDiff, Nat.reduceLeDiff, Nat.reduceLT, reduceCtorEq, Arc.e, Node.e, Pt.e, r14_Segment.e, int1, f1, f3, f4, f5, bc49, i24, i25, bc50, bc54, g25, bc55]
      · have bc54 : (e16.Arc.id != e17.Arc.id) = false := bneF_ c54
        rw [if_neg c54] at h
        cases h
        simp only [stepQ_normal, r14_planar_L0R, ↓askB_true, ↓askB_false, beq_self_eq_true, wz, Nat.reduceAdd, Nat.reduceSub, Nat.reduceMul, Nat.reduceBEq, Nat.reduceEqDiff, Nat.reduceLeDiff, Nat.reduceLT, reduceCtorEq, Arc.e, Node.e, Pt.e, r14_Segment.e, int1, f1, f3, f4, f5, bc49, i24, i25, bc50, bc54]
  · have bc49 : (decide (i21 < i9)) = false := decF c49
    rw [if_neg c49] at h
    cases h
    simp only [stepQ_exit, stepQ_ret, r14_planar_L0E, ↓askB_true, ↓askB_false, beq_self_eq_true, wz, Nat.reduceAdd, Nat.reduceSub, Nat.reduceMul, Nat.reduceBEq, Nat.reduceEqDiff, Nat.reduceLeDiff, Nat.reduceLT, reduceCtorEq, Arc.e, Node.e, Pt.e, r14_Segment.e, int1, f1, f3, f4, f5, bc49]

def r14_planar_L1b (a0 : Plan) (y1 : (List r14_Segment)) : Int → Option ((Int) ⊕ ((Unit) ⊕ (Unit))) := fun i9 => (if i9 < ((y1.length : Int)) then ((at_ y1 i9).bind fun e11 => ((r14_alone a0 e11).bind fun y16 => (if y16 = true then ((r14_planar_L0 a0 y1 i9 0).bind (fun x3 => sumK x3 (fun _ => some (.inr (Sum.inl ()))) (fun _ => some (.inl (w64 (i9 + 1)))))) else some (.inr (Sum.inl ()))))) else some (.inr (Sum.inr ())))
def r14_planar_L1R (a0 : Plan) (y1 : (List r14_Segment)) : Int → Fr → TS → Prop := fun i9 f S => S = E0 [] ∧ f 1 = .lv [.r (.lst (List.map Node.e a0.nodes) none), .r (.lst (List.map Arc.e a0.arcs) none), .r (.lst (List.map int1 a0.faces) none)] ∧ f 3 = .r (.lst (List.map r14_Segment.e y1) none) ∧ f 4 = I i9
def r14_planar_L1E (a0 : Plan) (y1 : (List r14_Segment)) : ((Unit) ⊕ (Unit)) → TX → Fr → TS → Prop
  | (Sum.inl ()), tx, f, S => tx = TX.ret ∧ S = E0 [] ∧ f 2 = B false
  | (Sum.inr ()), tx, f, S => tx = TX.exit 0 ∧ S = E0 []
noncomputable def r14_planar_L1 (a0 : Plan) (y1 : (List r14_Segment)) (s : Int) : Option ((Unit) ⊕ (Unit)) := loopO (r14_planar_L1b a0 y1) s
theorem r14_planar_L1_ok {a0 : Plan} {y1 : (List r14_Segment)} {s : Int} {r : (Unit) ⊕ (Unit)} {Q : TX → Fr → TS → Prop} (h : r14_planar_L1 a0 y1 s = some r) {f : Fr} {S : TS} (hR : r14_planar_L1R a0 y1 s f S) (hQ : ∀ tx f S, r14_planar_L1E a0 y1 r tx f S → Q tx f S) : wp prog [1] (callX prog cfg (famT r14_planar_fams)) (.loop x61L1) Q f S := by
  refine wp_loopO x61L1.eq_1 ?_ h hR hQ
  clear hQ hR h
  intro s x f S h hR
  revert h hR; revert s; intro i9 h hR
  obtain ⟨rfl, f1, f3, f4⟩ := hR
  unfold r14_planar_L1b at h
  try dsimp only at h
  by_cases c33 : i9 < ((y1.length : Int))
  · have bc33 : (decide (i9 < ((y1.length : Int)))) = true := decT c33
    rw [if_pos c33] at h
    obtain ⟨e11, he11, h⟩ := obind h
    have i17 := indexSl_at (enc := r14_Segment.e) he11 (sz := 12) rfl
    obtain ⟨y16, hy16, h⟩ := obind h
    have g16 : ∀ os, callX prog cfg (famT r14_planar_fams) 89 [.agg [.r (.lst (List.map Node.e a0.nodes) none), .r (.lst (List.map Arc.e a0.arcs) none), .r (.lst (List.map int1 a0.faces) none)], .agg [I e11.Arc.id, I e11.Arc.frm, I e11.Arc.to, .r (.lst (List.map Pt.e e11.Arc.via) none), I e11.Arc.left, I e11.Arc.right, I e11.I, I e11.N, I e11.A.x, I e11.A.y, I e11.B.x, I e11.B.y]] (E0 os) = some (B y16, E0 os, none) := fun os => callX_fam rfl (famLook_skip rfl <| famLook_hit rfl (r14_alone_val hy16))
    by_cases c34 : y16 = true
    · have bc34 : (y16) = true := id c34
      rw [if_pos c34] at h
      obtain ⟨x3, hx3, h⟩ := obind h
      simp only [↓askB_true, ↓askB_false, beq_self_eq_true, wz, Nat.reduceAdd, Nat.reduceSub, Nat.reduceMul, Nat.reduceBEq, Nat.reduceEqDiff, Nat.reduceLeDiff, Nat.reduceLT, reduceCtorEq, Arc.e, Node.e, Pt.e, r14_Segment.e, int1, f1, f3, f4, bc33, i17, g16, bc34]
      refine r14_planar_L0_ok hx3 ?_ ?_
      · simp only [r14_planar_L0R, ↓askB_true, ↓askB_false, beq_self_eq_true, wz, Nat.reduceAdd, Nat.reduceSub, Nat.reduceMul, Nat.reduceBEq, Nat.reduceEqDiff, Nat.reduceLeDiff, Nat.reduceLT, reduceCtorEq, Arc.e, Node.e, Pt.e, r14_Segment.e, int1, f1, f3, f4, bc33, i17, g16, bc34]
      intro tx f S hE
      rcases x3 with _u | _u
      · try dsimp only [sumK] at h
        obtain ⟨rfl, rfl, f2⟩ := hE
        cases h
        simp only [stepQ_exit, stepQ_ret, r14_planar_L1E, ↓askB_true, ↓askB_false, beq_self_eq_true, wz, Nat.reduceAdd, Nat.reduceSub, Nat.reduceMul, Nat.reduceBEq, Nat.reduceEqDiff, Nat.reduceLeDiff, Nat.reduceLT, reduceCtorEq, Arc.e, Node.e, Pt.e, r14_Segment.e, int1, bc33, i17, g16, bc34, f2]
      · try dsimp only [sumK] at h
        obtain ⟨rfl, rfl, f1, f3, f4⟩ := hE
        cases h
        simp only [stepQ_normal, r14_planar_L1R, ↓askB_true, ↓askB_false, beq_self_eq_true, wz, Nat.reduceAdd, Nat.reduceSub, Nat.reduceMul, Nat.reduceBEq, Nat.reduceEqDiff, Nat.reduceLeDiff, Nat.reduceLT, reduceCtorEq, Arc.e, Node.e, Pt.e, r14_Segment.e, int1, bc33, i17, g16, bc34, f1, f3, f4]
    · have bc34 : (y16) = false := boolF c34
      rw [if_neg c34] at h
      cases h
      simp only [stepQ_exit, stepQ_ret, r14_planar_L1E, ↓askB_true, ↓askB_false, beq_self_eq_true, wz, Nat.reduceAdd, Nat.reduceSub, Nat.reduceMul, Nat.reduceBEq, Nat.reduceEqDiff, Nat.reduceLeDiff, Nat.reduceLT, reduceCtorEq, Arc.e, Node.e, Pt.e, r14_Segment.e, int1, f1, f3, f4, bc33, i17, g16, bc34]
  · have bc33 : (decide (i9 < ((y1.length : Int)))) = false := decF c33
    rw [if_neg c33] at h
    cases h
    simp only [stepQ_exit, stepQ_ret, r14_planar_L1E, ↓askB_true, ↓askB_false, beq_self_eq_true, wz, Nat.reduceAdd, Nat.reduceSub, Nat.reduceMul, Nat.reduceBEq, Nat.reduceEqDiff, Nat.reduceLeDiff, Nat.reduceLT, reduceCtorEq, Arc.e, Node.e, Pt.e, r14_Segment.e, int1, f1, f3, f4, bc33]

noncomputable def r14_planar (a0 : Plan) : Option (Bool) := ((r14_Segments a0).bind fun y1 => ((r14_planar_L1 a0 y1 0).bind (fun x4 => sumK x4 (fun _ => some false) (fun _ => some true))))
theorem r14_planar_ok {a0 : Plan} {r : Bool} (h : r14_planar a0 = some r) : callL prog cfg (famT r14_planar_fams) 61 [.agg [.r (.lst (List.map Node.e a0.nodes) none), .r (.lst (List.map Arc.e a0.arcs) none), .r (.lst (List.map int1 a0.faces) none)]] (E0 []) = some (B r, E0 [], none) := by
  refine callL_wpG cx61 (ax := [.agg [.r (.lst (List.map Node.e a0.nodes) none), .r (.lst (List.map Arc.e a0.arcs) none), .r (.lst (List.map int1 a0.faces) none)]]) rfl rfl ?_
  unfold r14_planar at h
  try dsimp only at h
  obtain ⟨y1, hy1, h⟩ := obind h
  have g1 : ∀ os, callX prog cfg (famT r14_planar_fams) 88 [.agg [.r (.lst (List.map Node.e a0.nodes) none), .r (.lst (List.map Arc.e a0.arcs) none), .r (.lst (List.map int1 a0.faces) none)]] (E0 os) = some (.r (.lst (List.map r14_Segment.e y1) none), E0 os, none) := fun os => callX_fam rfl (famLook_hit rfl (r14_Segments_val hy1))
  obtain ⟨x4, hx4, h⟩ := obind h
  simp only [↓askB_true, ↓askB_false, beq_self_eq_true, wz, Nat.reduceAdd, Nat.reduceSub, Nat.reduceMul, Nat.reduceBEq, Nat.reduceEqDiff, Nat.reduceLeDiff, Nat.reduceLT, reduceCtorEq, Arc.e, Node.e, Pt.e, r14_Segment.e, int1, g1, x61, x61B]
  refine r14_planar_L1_ok hx4 ?_ ?_
  · simp only [r14_planar_L1R, ↓askB_true, ↓askB_false, beq_self_eq_true, wz, Nat.reduceAdd, Nat.reduceSub, Nat.reduceMul, Nat.reduceBEq, Nat.reduceEqDiff, Nat.reduceLeDiff, Nat.reduceLT, reduceCtorEq, Arc.e, Node.e, Pt.e, r14_Segment.e, int1, g1, x61, x61B]
  intro tx f S hE
  rcases x4 with _u | _u
  · try dsimp only [sumK] at h
    obtain ⟨rfl, rfl, f2⟩ := hE
    cases h
    simp only [retG, ↓askB_true, ↓askB_false, beq_self_eq_true, wz, Nat.reduceAdd, Nat.reduceSub, Nat.reduceMul, Nat.reduceBEq, Nat.reduceEqDiff, Nat.reduceLeDiff, Nat.reduceLT, reduceCtorEq, Arc.e, Node.e, Pt.e, r14_Segment.e, int1, g1, f2]
  · try dsimp only [sumK] at h
    obtain ⟨rfl, rfl⟩ := hE
    cases h
    simp only [retG, ↓askB_true, ↓askB_false, beq_self_eq_true, wz, Nat.reduceAdd, Nat.reduceSub, Nat.reduceMul, Nat.reduceBEq, Nat.reduceEqDiff, Nat.reduceLeDiff, Nat.reduceLT, reduceCtorEq, Arc.e, Node.e, Pt.e, r14_Segment.e, int1, g1]

noncomputable def r14_planar_fam : Fam := famC prog cfg (famT r14_planar_fams) 61
theorem r14_planar_val {a0 : Plan} {r : Bool} (h : r14_planar a0 = some r) : r14_planar_fam.val [.agg [.r (.lst (List.map Node.e a0.nodes) none), .r (.lst (List.map Arc.e a0.arcs) none), .r (.lst (List.map int1 a0.faces) none)]] = some (.flat (B r)) := famC_flat (r14_planar_ok h) rfl rfl
def r14_planar_At (fams : List Fam) : Prop := ∀  {a0 : Plan} {r : Bool} {xs_ : List TV} {os os1 : List TO}, r14_planar a0 = some r → argsT false (E0 os) xs_ = some ([.agg [.r (.lst (List.map Node.e a0.nodes) none), .r (.lst (List.map Arc.e a0.arcs) none), .r (.lst (List.map int1 a0.faces) none)]], E0 os1) → callX prog cfg (famT fams) 61 xs_ (E0 os) = some (B r, E0 os1, none)
theorem r14_planar_goods : ∀ x, x ∈ r14_planar_fams → x.Good prog := (goodsC r14_Segments_good (goodsC r14_alone_good (goodsC r14_apart_good (goodsC r14_joined_good goods0))))
theorem r14_planar_good : r14_planar_fam.Good prog := famC_good sound r14_planar_goods
end
end Go.TL.Pr
