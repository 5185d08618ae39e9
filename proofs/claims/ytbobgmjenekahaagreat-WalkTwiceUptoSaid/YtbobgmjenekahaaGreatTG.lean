/- The equations by which a walk is carried out. -/
import Derived.Test.YtbobgmjenekahaaGreatTF
import Derived.ReadAgain
import Derived.ChangeSame
import Derived.WideShapes
import Derived.Deep.CondSized
import Derived.Laws.StructEq
set_option linter.unusedVariables false
set_option linter.unusedSimpArgs false
namespace Go.TL

section
variable (P : Program) (loc : List Nat) (callF : CallF)

def okX (k il : Bool) (fps : List Nat) (dst : Option Nat) (f : Fr) (v : TV) : Bool := (k || !isFp v) && putOkX f ⟨dst, none, k, il, fps, .val (.global 0)⟩ v
def contX (os : List XOp) (K : Fr → TS → List EK → Prop) (k il : Bool) (fps : List Nat) (dst : Option Nat) (f : Fr) (S : TS) (es : List EK) (v : TV) (e : Eff) : Prop :=
  okX k il fps dst f v = true ∧ wpX P loc callF os K (putF (e.frF f) dst v) (e.S S) (e.ek :: es)
def goX (x : XO) (os : List XOp) (K : Fr → TS → List EK → Prop) (k il : Bool) (fps : List Nat) (dst : Option Nat) (S : TS) (es : List EK) (f : Fr) : Prop := bindO (xoT P loc callF f S x) fun r => contX P loc callF os K k il fps dst f S es r.val r.eff
def noX (os : List XOp) (K : Fr → TS → List EK → Prop) (il : Bool) (fps : List Nat) (dst : Option Nat) (S : TS) (es : List EK) (f : Fr) : Prop := putOkX f ⟨dst, none, false, il, fps, .val (.global 0)⟩ (.tup []) = true ∧ wpX P loc callF os K (putF f dst (.tup [])) S (.none :: es)
def runO (x : Option Out) (os : List XOp) (K : Fr → TS → List EK → Prop) (k il : Bool) (fps : List Nat) (dst : Option Nat) (S : TS) (es : List EK) (f : Fr) : Prop := bindO x fun r => contX P loc callF os K k il fps dst f S es r.val r.eff
def askG (b : Bool) (d : Nat) (x : XO) (os : List XOp) (K : Fr → TS → List EK → Prop) (k il : Bool) (fps : List Nat) (dst : Option Nat) (S : TS) (es : List EK) (f : Fr) : TV → Prop
  | .r (.sc (.bool c)) => askB c (cond b (goX P loc callF x os K k il fps dst S es (upd f d (.r (.sc (.bool true))))) (noX P loc callF os K il fps dst S es (upd f d (.r (.sc (.bool true))))))
      (cond b (noX P loc callF os K il fps dst S es (upd f d (.r (.sc (.bool false))))) (goX P loc callF x os K k il fps dst S es (upd f d (.r (.sc (.bool false))))))
  | .tup [] => noX P loc callF os K il fps dst S es f
  | _ => False
def regK (risk : List (Nat × Nat)) (W : List Nat) (Q : TX → Fr → TS → Prop) (f f' : Fr) (S' : TS) (es : List EK) : Prop := noClashK es.reverse risk = true ∧ Q .normal (updW f f' W) S'
def seqK (b : CC) (Q : TX → Fr → TS → Prop) (tx : TX) (f : Fr) (S : TS) : Prop := match tx with | .normal => wp P loc callF b Q f S | tx => Q tx f S
def blockK (id : Nat) (Q : TX → Fr → TS → Prop) (tx : TX) (f : Fr) (S : TS) : Prop := match tx with | .exit i => Q (cond (Nat.beq i id) .normal (.exit i)) f S | tx => Q tx f S
/-- A condition, asked. -/
def condK (a b : CC) (Q : TX → Fr → TS → Prop) (f : Fr) (S : TS) : TV → Prop
  | .r (.sc (.bool c)) => askB c (wp P loc callF a Q f S) (wp P loc callF b Q f S)
  | _ => False
end

section
variable {P : Program} {loc : List Nat} {callF : CallF} {K : Fr → TS → List EK → Prop} {Q : TX → Fr → TS → Prop} {os : List XOp} {f : Fr} {S : TS} {es : List EK}

theorem wpX_nil : wpX P loc callF [] K f S es = K f S es := (rfl)
theorem wpX_none {dst : Option Nat} {k il : Bool} {fps : List Nat} {o : XO} : wpX P loc callF (⟨dst, none, k, il, fps, o⟩ :: os) K f S es = runO P loc callF (xoT P loc callF f S o) os K k il fps dst S es f := (rfl)
theorem wpX_some {dst : Option Nat} {k il b : Bool} {d : Nat} {fps : List Nat} {o : XO} : wpX P loc callF (⟨dst, some (d, b), k, il, fps, o⟩ :: os) K f S es = askG P loc callF b d o os K k il fps dst S es f (f d) := by
  rw [wpX]
  unfold askG
  simp only
  cases f d with
  | r x => cases x with
    | sc v => cases v <;> rfl
    | lst es c => rfl
  | tup l => cases l <;> rfl
  | _ => rfl
theorem goX_eq {dst : Option Nat} {k il : Bool} {fps : List Nat} {o : XO} : goX P loc callF o os K k il fps dst S es f = runO P loc callF (xoT P loc callF f S o) os K k il fps dst S es f := (rfl)
theorem noX_eq {dst : Nat} {fps : List Nat} : noX P loc callF os K false fps (some dst) S es f = wpX P loc callF os K (upd f dst (.tup [])) S (.none :: es) := by simp [noX, putOkX, isLv, putF]
theorem noX_none {il : Bool} {fps : List Nat} : noX P loc callF os K il fps none S es f = wpX P loc callF os K f S (.none :: es) := by simp [noX, putOkX, putF]
theorem runO_some {dst : Option Nat} {k il : Bool} {fps : List Nat} {v : TV} {e : Eff} : runO P loc callF (some ⟨v, e⟩) os K k il fps dst S es f = contX P loc callF os K k il fps dst f S es v e := (rfl)
theorem runO_oval {dst : Option Nat} {k il : Bool} {fps : List Nat} {v : TV} : runO P loc callF (oval v) os K k il fps dst S es f = contX P loc callF os K k il fps dst f S es v .none := (rfl)
theorem askG_tup {b : Bool} {d : Nat} {dst : Option Nat} {k il : Bool} {fps : List Nat} {o : XO} : askG P loc callF b d o os K k il fps dst S es f (.tup []) = noX P loc callF os K il fps dst S es f := (rfl)
theorem regK_nil {W : List Nat} {f' : Fr} {S' : TS} : regK [] W Q f f' S' es = Q .normal (updW f f' W) S' := by simp [regK, noClashK]
theorem regK_cons {p : Nat × Nat} {l : List (Nat × Nat)} {W : List Nat} {f' : Fr} {S' : TS} (h : noClashK es.reverse (p :: l) = true) : regK (p :: l) W Q f f' S' es = Q .normal (updW f f' W) S' := by simp [regK, h]
theorem seqK_normal {b : CC} : seqK P loc callF b Q .normal f S = wp P loc callF b Q f S := (rfl)
theorem seqK_ret {b : CC} : seqK P loc callF b Q .ret f S = Q .ret f S := (rfl)
theorem seqK_exit {b : CC} {i : Nat} : seqK P loc callF b Q (.exit i) f S = Q (.exit i) f S := (rfl)
theorem blockK_normal {id : Nat} : blockK id Q .normal f S = Q .normal f S := (rfl)
theorem blockK_ret {id : Nat} : blockK id Q .ret f S = Q .ret f S := (rfl)
theorem blockK_exit {id i : Nat} : blockK id Q (.exit i) f S = Q (cond (Nat.beq i id) .normal (.exit i)) f S := (rfl)
theorem wp_skip : wp P loc callF .skip Q f S = Q .normal f S := (rfl)
theorem wp_exit {i : Nat} : wp P loc callF (.exit i) Q f S = Q (.exit i) f S := (rfl)
theorem wp_ret : wp P loc callF .ret Q f S = Q .ret f S := (rfl)
theorem wp_region {W : List Nat} {risk : List (Nat × Nat)} {ops : List XOp} : wp P loc callF (.region W risk ops) Q f S = wpX P loc callF ops (regK risk W Q f) f S [] := (rfl)
theorem wp_seq {a b : CC} : wp P loc callF (.seq a b) Q f S = wp P loc callF a (seqK P loc callF b Q) f S := (rfl)
theorem wp_block {id : Nat} {c : CC} : wp P loc callF (.block id c) Q f S = wp P loc callF c (blockK id Q) f S := (rfl)
theorem wp_cond {x : Operand} {a b : CC} : wp P loc callF (.cond x a b) Q f S = condK P loc callF a b Q f S (opF f x) := by
  simp only [wp, condK]
  cases opF f x with
  | r x => cases x with
    | sc v => cases v <;> rfl
    | lst es c => rfl
  | _ => rfl
theorem condK_bool {a b : CC} {c : Bool} : condK P loc callF a b Q f S (.r (.sc (.bool c))) = askB c (wp P loc callF a Q f S) (wp P loc callF b Q f S) := (rfl)


section
variable {dst : Option Nat} {k il b : Bool} {d : Nat} {fps : List Nat} {o : XO} {v : TV} {e : Eff} {p : Prop} {c : Bool} {x y : Int}
theorem askG_tt : askG P loc callF true d o os K k il fps dst S es f (.r (.sc (.bool true))) = goX P loc callF o os K k il fps dst S es (upd f d (.r (.sc (.bool true)))) := by simp [askG, askB]
theorem askG_tf : askG P loc callF true d o os K k il fps dst S es f (.r (.sc (.bool false))) = noX P loc callF os K il fps dst S es (upd f d (.r (.sc (.bool false)))) := by simp [askG, askB]
theorem askG_ft : askG P loc callF false d o os K k il fps dst S es f (.r (.sc (.bool true))) = noX P loc callF os K il fps dst S es (upd f d (.r (.sc (.bool true)))) := by simp [askG, askB]
theorem askG_ff : askG P loc callF false d o os K k il fps dst S es f (.r (.sc (.bool false))) = goX P loc callF o os K k il fps dst S es (upd f d (.r (.sc (.bool false)))) := by simp [askG, askB]
theorem askG_t : askG P loc callF true d o os K k il fps dst S es f (.r (.sc (.bool c))) = askB c (goX P loc callF o os K k il fps dst S es (upd f d (.r (.sc (.bool true))))) (noX P loc callF os K il fps dst S es (upd f d (.r (.sc (.bool false))))) := (rfl)
theorem askG_f : askG P loc callF false d o os K k il fps dst S es f (.r (.sc (.bool c))) = askB c (noX P loc callF os K il fps dst S es (upd f d (.r (.sc (.bool true))))) (goX P loc callF o os K k il fps dst S es (upd f d (.r (.sc (.bool false))))) := (rfl)

theorem contX_v (h1 : isFp v = false) (h2 : isLv v = false) : contX P loc callF os K k false fps (some d) f S es v e = wpX P loc callF os K (upd (e.frF f) d v) (e.S S) (e.ek :: es) := by simp [contX, okX, putOkX, putF, h1, h2]
theorem contX_fp {a off : Nat} : contX P loc callF os K true false fps (some d) f S es (.fp a off) e = wpX P loc callF os K (upd (e.frF f) d (.fp a off)) (e.S S) (e.ek :: es) := by simp [contX, okX, putOkX, putF, isLv]
theorem contX_lv {cs : List TV} : contX P loc callF os K k true fps (some d) f S es (.lv cs) e = (noFpL f d fps = true ∧ wpX P loc callF os K (upd (e.frF f) d (.lv cs)) (e.S S) (e.ek :: es)) := by simp [contX, okX, putOkX, putF, isFp]
theorem contX_none : contX P loc callF os K k il fps none f S es .und e = wpX P loc callF os K (e.frF f) (e.S S) (e.ek :: es) := by simp [contX, okX, putOkX, putF, isFp]
end

@[congr] theorem wpX_congr {f' : Fr} {S' : TS} {es' : List EK} (hf : f = f') (hS : S = S') (he : es = es') : wpX P loc callF os K f S es = wpX P loc callF os K f' S' es' := by rw [hf, hS, he]
@[congr] theorem runO_congr {x y : Option Out} {dst : Option Nat} {k il : Bool} {fps : List Nat} {f' : Fr} {S' : TS} {es' : List EK} (h : x = y) (hf : f = f') (hS : S = S') (he : es = es') : runO P loc callF x os K k il fps dst S es f = runO P loc callF y os K k il fps dst S' es' f' := by rw [h, hf, hS, he]
@[congr] theorem contX_congr {v v' : TV} {e e' : Eff} {dst : Option Nat} {k il : Bool} {fps : List Nat} {f' : Fr} {S' : TS} {es' : List EK} (hv : v = v') (hE : e = e') (hf : f = f') (hS : S = S') (he : es = es') : contX P loc callF os K k il fps dst f S es v e = contX P loc callF os K k il fps dst f' S' es' v' e' := by rw [hv, hE, hf, hS, he]
@[congr] theorem wp_congr {c : CC} {f' : Fr} {S' : TS} (hf : f = f') (hS : S = S') : wp P loc callF c Q f S = wp P loc callF c Q f' S' := by rw [hf, hS]
@[congr] theorem goX_congr {o : XO} {dst : Option Nat} {k il : Bool} {fps : List Nat} {f' : Fr} {S' : TS} {es' : List EK} (hf : f = f') (hS : S = S') (he : es = es') : goX P loc callF o os K k il fps dst S es f = goX P loc callF o os K k il fps dst S' es' f' := by rw [hf, hS, he]
@[congr] theorem noX_congr {dst : Option Nat} {il : Bool} {fps : List Nat} {f' : Fr} {S' : TS} {es' : List EK} (hf : f = f') (hS : S = S') (he : es = es') : noX P loc callF os K il fps dst S es f = noX P loc callF os K il fps dst S' es' f' := by rw [hf, hS, he]
@[congr] theorem askG_congr {o : XO} {dst : Option Nat} {k il b : Bool} {d : Nat} {fps : List Nat} {f' : Fr} {S' : TS} {es' : List EK} {v v' : TV} (hf : f = f') (hS : S = S') (he : es = es') (hv : v = v') : askG P loc callF b d o os K k il fps dst S es f v = askG P loc callF b d o os K k il fps dst S' es' f' v' := by rw [hf, hS, he, hv]
@[congr] theorem condK_congr {a b : CC} {f' : Fr} {S' : TS} {v v' : TV} (hf : f = f') (hS : S = S') (hv : v = v') : condK P loc callF a b Q f S v = condK P loc callF a b Q f' S' v' := by rw [hf, hS, hv]
end

def noFp1 (d : Nat) (v : TV) : Bool := match v with | .fp d' _ => !Nat.beq d d' | _ => true
theorem isFp_r (x : RV) : isFp (.r x) = false := by simp [isFp]
theorem isFp_agg (x : List TV) : isFp (.agg x) = false := by simp [isFp]
theorem isFp_tup (x : List TV) : isFp (.tup x) = false := by simp [isFp]
theorem isFp_ptr (o off : Nat) : isFp (.ptr o off) = false := by simp [isFp]
theorem isFp_sl (o a b c : Nat) (d : Option Nat) : isFp (.sl o a b c d) = false := by simp [isFp]
theorem isFp_mp (o : Nat) : isFp (.mp o) = false := by simp [isFp]
theorem isFp_fn (o : Nat) (cs : List TV) : isFp (.fn o cs) = false := by simp [isFp]
theorem isFp_ep (cs : List RV) (off : Nat) : isFp (.ep cs off) = false := by simp [isFp]
theorem isFp_ap (a b c d : Nat) : isFp (.ap a b c d) = false := by simp [isFp]
theorem isFp_und : isFp .und = false := by simp [isFp]
theorem isFp_lv (x : List TV) : isFp (.lv x) = false := by simp [isFp]
theorem isLv_r (x : RV) : isLv (.r x) = false := by simp [isLv]
theorem isLv_agg (x : List TV) : isLv (.agg x) = false := by simp [isLv]
theorem isLv_tup (x : List TV) : isLv (.tup x) = false := by simp [isLv]
theorem isLv_ptr (o off : Nat) : isLv (.ptr o off) = false := by simp [isLv]
theorem isLv_sl (o a b c : Nat) (d : Option Nat) : isLv (.sl o a b c d) = false := by simp [isLv]
theorem isLv_mp (o : Nat) : isLv (.mp o) = false := by simp [isLv]
theorem isLv_fn (o : Nat) (cs : List TV) : isLv (.fn o cs) = false := by simp [isLv]
theorem isLv_ep (cs : List RV) (off : Nat) : isLv (.ep cs off) = false := by simp [isLv]
theorem isLv_ap (a b c d : Nat) : isLv (.ap a b c d) = false := by simp [isLv]
theorem isLv_und : isLv .und = false := by simp [isLv]
theorem loadF_fp (loc : List Nat) (f : Fr) (S : TS) (n : Nat) (ag : Bool) (d off : Nat) : loadF loc f S n ag (.fp d off) = cond (loc.contains d) (match f d with | .lv cs => (partC n ag cs off).map (⟨·, .fread d⟩) | _ => .none) .none := (rfl)
theorem loadF_ptr (loc : List Nat) (f : Fr) (S : TS) (n : Nat) (ag : Bool) (o off : Nat) : loadF loc f S n ag (.ptr o off) = match S.objs[o]? with | some (.box cs) => (partC n ag cs off).map (⟨·, .rd [o]⟩) | _ => .none := (rfl)
theorem loadF_ap (loc : List Nat) (f : Fr) (S : TS) (n : Nat) (ag : Bool) (o idx off ver : Nat) : loadF loc f S n ag (.ap o idx off ver) = match S.objs[o]? with
    | some (.arr _ es v _) => cond (Nat.beq v ver) (match es[idx]? with | some cs => (partC n ag (cs.map .r) off).map (⟨·, .rd [o]⟩) | .none => .none) .none
    | _ => .none := rfl
theorem loadF_epc (loc : List Nat) (f : Fr) (S : TS) (n : Nat) (ag : Bool) (c : RV) (cs : List RV) (off : Nat) : loadF loc f S n ag (.ep (c :: cs) off) = (partC n ag ((c :: cs).map .r) off).map (⟨·, .none⟩) := (rfl)
theorem noFpL_nil (f : Fr) (d : Nat) : noFpL f d [] = true := by simp [noFpL]
theorem noFpL_cons (f : Fr) (d e : Nat) (es : List Nat) : noFpL f d (e :: es) = (noFp1 d (f e) && noFpL f d es) := by
  simp only [noFpL, noFp1]
  cases f e <;> rfl
theorem noFp1_r (d : Nat) (x : RV) : noFp1 d (.r x) = true := by simp [noFp1]
theorem noFp1_agg (d : Nat) (x : List TV) : noFp1 d (.agg x) = true := by simp [noFp1]
theorem noFp1_lv (d : Nat) (x : List TV) : noFp1 d (.lv x) = true := by simp [noFp1]
theorem noFp1_tup (d : Nat) (x : List TV) : noFp1 d (.tup x) = true := by simp [noFp1]
theorem noFp1_ptr (d o off : Nat) : noFp1 d (.ptr o off) = true := by simp [noFp1]
theorem noFp1_sl (t o a b c : Nat) (d : Option Nat) : noFp1 t (.sl o a b c d) = true := by simp [noFp1]
theorem noFp1_mp (t o : Nat) : noFp1 t (.mp o) = true := by simp [noFp1]
theorem noFp1_fn (t o : Nat) (cs : List TV) : noFp1 t (.fn o cs) = true := by simp [noFp1]
theorem noFp1_ep (t : Nat) (cs : List RV) (off : Nat) : noFp1 t (.ep cs off) = true := by simp [noFp1]
theorem noFp1_ap (t a b c d : Nat) : noFp1 t (.ap a b c d) = true := by simp [noFp1]
theorem noFp1_und (t : Nat) : noFp1 t .und = true := by simp [noFp1]
theorem noFp1_fp (t d off : Nat) : noFp1 t (.fp d off) = !Nat.beq t d := by simp only [noFp1]
theorem unfp_fp (a b : Nat) : unfp (.fp a b) = .und := (rfl)
theorem unfp_r (x : RV) : unfp (.r x) = .r x := (rfl)
theorem unfp_agg (x : List TV) : unfp (.agg x) = .agg x := (rfl)
theorem unfp_lv (x : List TV) : unfp (.lv x) = .lv x := (rfl)
theorem unfp_tup (x : List TV) : unfp (.tup x) = .tup x := (rfl)
theorem unfp_ptr (o off : Nat) : unfp (.ptr o off) = .ptr o off := (rfl)
theorem unfp_sl (o a b c : Nat) (d : Option Nat) : unfp (.sl o a b c d) = .sl o a b c d := (rfl)
theorem unfp_mp (o : Nat) : unfp (.mp o) = .mp o := (rfl)
theorem unfp_fn (o : Nat) (cs : List TV) : unfp (.fn o cs) = .fn o cs := (rfl)
theorem unfp_ep (cs : List RV) (off : Nat) : unfp (.ep cs off) = .ep cs off := (rfl)
theorem unfp_ap (a b c d : Nat) : unfp (.ap a b c d) = .ap a b c d := (rfl)
theorem lvp_sl (t o a b c : Nat) (d : Option Nat) : lvp t (.sl o a b c d) = .sl o a b c d := (rfl)
theorem lvp_mp (t o : Nat) : lvp t (.mp o) = .mp o := (rfl)
theorem lvp_fn (t o : Nat) (cs : List TV) : lvp t (.fn o cs) = .fn o cs := (rfl)
theorem lvp_ep (t : Nat) (cs : List RV) (off : Nat) : lvp t (.ep cs off) = .ep cs off := (rfl)
theorem lvp_ap (t a b c d : Nat) : lvp t (.ap a b c d) = .ap a b c d := (rfl)

section
variable {P : Program} {loc : List Nat} {callF : CallF}

theorem wpX_det : ∀ {ops : List XOp} {K : Fr → TS → List EK → Prop} {f : Fr} {S : TS} {es : List EK}, wpX P loc callF ops K f S es → ∃ f' S' es', K f' S' es' ∧ ∀ K', K' f' S' es' → wpX P loc callF ops K' f S es
  | [], K, f, S, es, h => ⟨f, S, es, h, fun _ h => h⟩
  | ⟨dst, g, k, il, fps, o⟩ :: os, K, f, S, es, h => by
    have hgo : ∀ f0 : Fr, goX P loc callF o os K k il fps dst S es f0 → ∃ f' S' es', K f' S' es' ∧ ∀ K', K' f' S' es' → goX P loc callF o os K' k il fps dst S es f0 := by
      intro f0 h
      unfold goX bindO at h
      split at h
      · rename_i r hr
        obtain ⟨f', S', es', h1, h2⟩ := wpX_det h.2
        exact ⟨f', S', es', h1, fun K' hK => by unfold goX bindO; rw [hr]; exact ⟨h.1, h2 K' hK⟩⟩
      · exact h.elim
    have hno : ∀ f0 : Fr, noX P loc callF os K il fps dst S es f0 → ∃ f' S' es', K f' S' es' ∧ ∀ K', K' f' S' es' → noX P loc callF os K' il fps dst S es f0 := by
      intro f0 h
      obtain ⟨f', S', es', h1, h2⟩ := wpX_det h.2
      exact ⟨f', S', es', h1, fun K' hK => ⟨h.1, h2 K' hK⟩⟩
    cases g with
    | none => exact hgo f h
    | some db =>
      obtain ⟨d, b⟩ := db
      rw [wpX_some] at h
      simp only [wpX_some]
      cases hf : f d with
      | r x => cases x with
        | sc v => cases v with
          | bool c =>
            rw [hf] at h
            cases b <;> cases c <;> simp only [askG_tt, askG_tf, askG_ft, askG_ff] at h ⊢ <;> first | exact hgo _ h | exact hno _ h
          | _ => rw [hf] at h; exact h.elim
        | lst es c => rw [hf] at h; exact h.elim
      | tup l => cases l with
        | nil => rw [hf] at h; exact hno f h
        | cons _ _ => rw [hf] at h; exact h.elim
      | _ => rw [hf] at h; exact h.elim

theorem wp_det : ∀ {c : CC} {Q : TX → Fr → TS → Prop} {f : Fr} {S : TS}, wp P loc callF c Q f S → ∃ tx f' S', Q tx f' S' ∧ ∀ Q', Q' tx f' S' → wp P loc callF c Q' f S := by
  intro c
  induction c with
  | skip => intro Q f S h; exact ⟨_, _, _, h, fun _ h => h⟩
  | exit i => intro Q f S h; exact ⟨_, _, _, h, fun _ h => h⟩
  | ret => intro Q f S h; exact ⟨_, _, _, h, fun _ h => h⟩
  | region W risk ops =>
    intro Q f S h
    obtain ⟨f', S', es', h1, h2⟩ := wpX_det h
    exact ⟨_, _, _, h1.2, fun Q' hQ => h2 _ ⟨h1.1, hQ⟩⟩
  | seq a b iha ihb =>
    intro Q f S h
    obtain ⟨tx, f', S', h1, h2⟩ := iha h
    cases tx with
    | normal =>
      obtain ⟨tx2, f2, S2, h3, h4⟩ := ihb h1
      exact ⟨tx2, f2, S2, h3, fun Q' hQ => h2 _ (h4 Q' hQ)⟩
    | exit i => exact ⟨_, _, _, h1, fun Q' hQ => h2 _ hQ⟩
    | ret => exact ⟨_, _, _, h1, fun Q' hQ => h2 _ hQ⟩
  | cond x a b iha ihb =>
    intro Q f S h
    rw [wp_cond] at h
    simp only [wp_cond]
    unfold condK at h ⊢
    split at h
    · rename_i t ht
      cases t
      · obtain ⟨tx, f', S', h1, h2⟩ := ihb (h.2 rfl)
        exact ⟨tx, f', S', h1, fun Q' hQ => ⟨(fun e => by cases e), fun _ => h2 Q' hQ⟩⟩
      · obtain ⟨tx, f', S', h1, h2⟩ := iha (h.1 rfl)
        exact ⟨tx, f', S', h1, fun Q' hQ => ⟨fun _ => h2 Q' hQ, (fun e => by cases e)⟩⟩
    · exact h.elim
  | block id c ih =>
    intro Q f S h
    obtain ⟨tx, f', S', h1, h2⟩ := ih h
    cases tx <;> exact ⟨_, _, _, h1, fun Q' hQ => h2 _ hQ⟩
  | loop c ih =>
    intro Q f S h
    obtain ⟨n, h⟩ := h
    induction n generalizing f S with
    | zero => exact h.elim
    | succ n ihn =>
      obtain ⟨tx, f', S', h1, h2⟩ := ih h
      cases tx with
      | normal =>
        obtain ⟨tx2, f2, S2, h3, h4⟩ := ihn h1
        refine ⟨tx2, f2, S2, h3, fun Q' hQ => ?_⟩
        obtain ⟨m, hm⟩ := h4 Q' hQ
        exact ⟨m + 1, h2 _ hm⟩
      | exit i => exact ⟨_, _, _, h1, fun Q' hQ => ⟨1, h2 _ hQ⟩⟩
      | ret => exact ⟨_, _, _, h1, fun Q' hQ => ⟨1, h2 _ hQ⟩⟩

theorem wp_mono {c : CC} {Q Q' : TX → Fr → TS → Prop} {f : Fr} {S : TS} (h : wp P loc callF c Q f S) (hq : ∀ tx f S, Q tx f S → Q' tx f S) : wp P loc callF c Q' f S := by
  obtain ⟨tx, f', S', h1, h2⟩ := wp_det h
  exact h2 Q' (hq _ _ _ h1)

def loopK (P : Program) (loc : List Nat) (callF : CallF) (c : CC) (Q : TX → Fr → TS → Prop) (tx : TX) (f : Fr) (S : TS) : Prop := match tx with | .normal => wp P loc callF (.loop c) Q f S | tx => Q tx f S
theorem loopK_normal {c : CC} {Q : TX → Fr → TS → Prop} {f : Fr} {S : TS} : loopK P loc callF c Q .normal f S = wp P loc callF (.loop c) Q f S := (rfl)
theorem loopK_exit {c : CC} {Q : TX → Fr → TS → Prop} {f : Fr} {S : TS} {i : Nat} : loopK P loc callF c Q (.exit i) f S = Q (.exit i) f S := (rfl)
theorem loopK_ret {c : CC} {Q : TX → Fr → TS → Prop} {f : Fr} {S : TS} : loopK P loc callF c Q .ret f S = Q .ret f S := (rfl)
/-- One round. -/
theorem wp_round {c b : CC} (hb : c = b) {Q : TX → Fr → TS → Prop} {f : Fr} {S : TS} (h : wp P loc callF b (loopK P loc callF c Q) f S) : wp P loc callF (.loop c) Q f S := by
  subst hb
  obtain ⟨tx, f', S', h1, h2⟩ := wp_det h
  cases tx with
  | normal =>
    obtain ⟨n, h1⟩ := h1
    exact ⟨n + 1, h2 _ h1⟩
  | exit i => exact ⟨1, h2 _ h1⟩
  | ret => exact ⟨1, h2 _ h1⟩
end
end Go.TL
/- Small laws for walks. -/
namespace Go.TL

abbrev I (n : Int) : TV := .r (.sc (.int .i64 n))
abbrev B (b : Bool) : TV := .r (.sc (.bool b))
abbrev cI (n : Int) : RV := .sc (.int .i64 n)
abbrev E0 (os : List TO) : TS := ⟨os, false, none⟩

theorem wrap_id {n : Int} (h1 : -9223372036854775808 ≤ n) (h2 : n ≤ 9223372036854775807) : IntKind.wrap .i64 n = n := by
  have e : (2 : Int) ^ 64 = 18446744073709551616 := by decide
  have e' : (2 : Int) ^ 63 = 9223372036854775808 := by decide
  simp only [IntKind.wrap, IntKind.bits, IntKind.signed, e, e', Nat.reduceSub]
  simp
  split <;> omega

/- Clashes, told by their kinds. -/
theorem ck_none_l (k : EK) : clashK .none k = false := by cases k <;> rfl
theorem ck_none_r (k : EK) : clashK k .none = false := by cases k <;> rfl
theorem ck_fread2 (d e : Nat) : clashK (.fread d) (.fread e) = false := rfl
theorem ck_fread_rd (d : Nat) (l : List Nat) : clashK (.fread d) (.rd l) = false := rfl
theorem ck_rd_fread (d : Nat) (l : List Nat) : clashK (.rd l) (.fread d) = false := rfl
theorem ck_fread_wr (d : Nat) : clashK (.fread d) .wr = false := rfl
theorem ck_wr_fread (d : Nat) : clashK .wr (.fread d) = false := rfl
theorem ck_fread_push (d n : Nat) : clashK (.fread d) (.push n) = false := rfl
theorem ck_push_fread (d n : Nat) : clashK (.push n) (.fread d) = false := rfl
theorem ck_fread_call (d : Nat) (s : Bool) : clashK (.fread d) (.call s) = false := rfl
theorem ck_call_fread (d : Nat) (s : Bool) : clashK (.call s) (.fread d) = false := rfl
theorem ck_fread_feff (d e : Nat) : clashK (.fread d) (.feff e) = Nat.beq d e := rfl
theorem ck_feff_fread (d e : Nat) : clashK (.feff d) (.fread e) = Nat.beq d e := rfl
theorem ck_feff2 (d e : Nat) : clashK (.feff d) (.feff e) = Nat.beq d e := rfl
theorem ck_feff_rd (d : Nat) (l : List Nat) : clashK (.feff d) (.rd l) = false := rfl
theorem ck_rd_feff (d : Nat) (l : List Nat) : clashK (.rd l) (.feff d) = false := rfl
theorem ck_feff_wr (d : Nat) : clashK (.feff d) .wr = false := rfl
theorem ck_wr_feff (d : Nat) : clashK .wr (.feff d) = false := rfl
theorem ck_feff_push (d n : Nat) : clashK (.feff d) (.push n) = false := rfl
theorem ck_push_feff (d n : Nat) : clashK (.push n) (.feff d) = false := rfl
theorem ck_feff_call (d : Nat) (s : Bool) : clashK (.feff d) (.call s) = false := rfl
theorem ck_call_feff (d : Nat) (s : Bool) : clashK (.call s) (.feff d) = false := rfl
theorem ck_rd2 (l m : List Nat) : clashK (.rd l) (.rd m) = false := rfl
theorem ck_rd_push (l : List Nat) (n : Nat) : clashK (.rd l) (.push n) = false := rfl
theorem ck_push_rd (l : List Nat) (n : Nat) : clashK (.push n) (.rd l) = l.contains n := rfl
theorem ck_rd_call (l : List Nat) (s : Bool) : clashK (.rd l) (.call s) = !s := rfl
theorem ck_call_rd (l : List Nat) (s : Bool) : clashK (.call s) (.rd l) = !s := rfl
theorem ck_call2 (s t : Bool) : clashK (.call s) (.call t) = !(s && t) := rfl

section
variable {loc : List Nat} {f : Fr} {S : TS}
theorem indexSl_nat {sz i : Nat} {es : List (List RV)} {c : Option Nat} {cs : List RV} (h : es[i]? = some cs) (hl : cs.length = sz) : indexSl S sz (.r (.lst es c)) (i : Int) = oval (.ep cs 0) := by
  have hl' : Nat.beq cs.length sz = true := by rw [hl]; exact Nat.beq_refl _
  have hlt := get_lt h
  have : inRange (i : Int) es.length = true := by simp [inRange]; exact hlt
  simp only [indexSl, this, cond_true, Int.toNat_natCast, h, hl']
theorem indexSl_int {sz : Nat} {i : Int} {es : List (List RV)} {c : Option Nat} {cs : List RV} (h0 : 0 ≤ i) (h : es[i.toNat]? = some cs) (hl : cs.length = sz) : indexSl S sz (.r (.lst es c)) i = oval (.ep cs 0) := by
  obtain ⟨k, rfl⟩ := Int.eq_ofNat_of_zero_le h0
  exact indexSl_nat h hl
theorem loadF_whole {n : Nat} {cs : List RV} (h : cs.length = n) : loadF loc f S n true (.ep cs 0) = some ⟨.agg (cs.map .r), .none⟩ := by
  subst h
  have h1 : Nat.ble (0 + cs.length) (cs.map TV.r).length = true := by simp
  have h2 : (cs.map TV.r).take cs.length = cs.map TV.r := by rw [List.take_of_length_le (by simp)]
  simp only [loadF, partC, h1, cond_true, List.drop_zero, h2, Option.map_some]
theorem loadF_ep {n off : Nat} {ag : Bool} {cs : List RV} {v : TV} (h : partC n ag (cs.map .r) off = some v) : loadF loc f S n ag (.ep cs off) = some ⟨v, .none⟩ := by simp [loadF, h]

theorem callX_none {P : Program} {cfg : Cfg} {fams : List Fam} {f : Nat} {args : List TV} {S : TS} (hv : ∀ as, famLook f as fams = none) : callX P cfg (famT fams) f args S = callL P cfg (famT fams) f args S := by
  have : famT fams f args S = none := by
    unfold famT
    split
    · simp only [hv]
    · rfl
  simp only [callX, orcT, this]

theorem closed_neg {P : Program} {f : Fr} {x : Operand} {t : TypeId} {k : IntKind} {n : Int} (h : opF f x = .r (.sc (.int k n))) : closedT P (opF f) (bare (.unOp .neg t x) 0) = oval (.r (.sc (.int k (k.wrap (0 - n))))) := by
  have h1 : plainOps (opF f) (bare (.unOp .neg t x) 0).op.operands.toList = true := by simp [bare, Op.operands, plainOps, h, toV]
  unfold closedT
  rw [h1, cond_true]
  simp only [bare, execOp, h, toV, Option.getD_some, Op.unary, Op.intArith]
  rfl
def negX (P : Program) (f : Fr) (t : TypeId) (x : Operand) : TV → Option Out
  | .r (.sc (.int k n)) => oval (.r (.sc (.int k (k.wrap (0 - n)))))
  | _ => closedT P (opF f) (bare (.unOp .neg t x) 0)
theorem xoT_neg {P : Program} {callF : CallF} {t : TypeId} {x : Operand} : xoT P loc callF f S (.cl (.unOp .neg t x)) = negX P f t x (opF f x) := by
  rw [xoT]
  unfold negX
  split
  · rename_i k n h
    exact closed_neg h
  · rfl
theorem negX_int {P : Program} {t : TypeId} {x : Operand} {k : IntKind} {n : Int} : negX P f t x (.r (.sc (.int k n))) = oval (.r (.sc (.int k (k.wrap (0 - n))))) := (rfl)

theorem appendX_copy0 {sz bytes : Nat} : appendX S sz bytes (.r (.lst [] (some 0))) (.r (.lst [] none)) = some ⟨.r (.lst [] (some 0)), .rd []⟩ := by
  have : Nat.ble 0 roomT = true := rfl
  simp [appendX, rdSlice, lenT, allLen, TV.sls, sl1, this]
theorem appendX_copy1 {sz bytes : Nat} {x : List RV} {xs : List (List RV)} (h1 : (xs.length + 1) * bytes ≤ roomT) (h2 : xs.length + 1 ≤ roomT) (h3 : allLen sz (x :: xs) = true) (h4 : (x :: xs).all (fun e => e.all okR) = true) :
    appendX S sz bytes (.r (.lst [] (some 0))) (.r (.lst (x :: xs) none)) = some ⟨.sl S.objs.length 0 (xs.length + 1) 0 none, .push S.objs.length [] (.arr sz (x :: xs) 0 0)⟩ := by
  simp only [appendX, rdSlice, lenT, List.length_nil, List.length_cons, Nat.zero_add, h3, h4]
  have e1 : Nat.ble ((xs.length + 1) * bytes) roomT = true := by simpa using h1
  have e2 : Nat.ble (xs.length + 1) roomT = true := by simpa using h2
  have e3 : Nat.blt 0 (xs.length + 1) = true := by simp [Nat.blt]
  simp only [e1, e2, e3, Bool.and_true, cond_true, allLen, List.all_nil, List.nil_append, newArr, List.length_cons, TV.sls, sl1]

/-- Where the first element is that is so. -/
def idxOf {α : Type} (p : α → Bool) (l : List α) : Int := match l.findIdx? p with | some i => i | none => -1
theorem idxOf_cases {α : Type} (p : α → Bool) (l : List α) : (idxOf p l = -1 ∧ l.find? p = none) ∨ ∃ (i : Nat) (a : α), idxOf p l = i ∧ l[i]? = some a ∧ l.find? p = some a := by
  unfold idxOf
  cases h : l.findIdx? p with
  | none => exact .inl ⟨rfl, by rw [List.find?_eq_none]; intro x hx; have := List.findIdx?_eq_none_iff.1 h x hx; simp [this]⟩
  | some i =>
    obtain ⟨hi, h1, h2⟩ := List.findIdx?_eq_some_iff_getElem.1 h
    exact .inr ⟨i, l[i], rfl, List.getElem?_eq_getElem hi, List.find?_eq_some_iff_getElem.2 ⟨h1, i, hi, rfl, fun j hj => by simpa using h2 j hj⟩⟩
end

section
variable {P : Program} {loc : List Nat} {callF : CallF}
/-- How a round goes on. -/
def loopI (Inv : Nat → Fr → TS → Prop) (k : Nat) (Q : TX → Fr → TS → Prop) (tx : TX) (f : Fr) (S : TS) : Prop := match tx with | .normal => ∃ k', k' < k ∧ Inv k' f S | tx => Q tx f S
theorem loopI_normal {Inv : Nat → Fr → TS → Prop} {k : Nat} {Q : TX → Fr → TS → Prop} {f : Fr} {S : TS} : loopI Inv k Q .normal f S = ∃ k', k' < k ∧ Inv k' f S := (rfl)
theorem loopI_exit {Inv : Nat → Fr → TS → Prop} {k : Nat} {Q : TX → Fr → TS → Prop} {f : Fr} {S : TS} {i : Nat} : loopI Inv k Q (.exit i) f S = Q (.exit i) f S := (rfl)
theorem loopI_ret {Inv : Nat → Fr → TS → Prop} {k : Nat} {Q : TX → Fr → TS → Prop} {f : Fr} {S : TS} : loopI Inv k Q .ret f S = Q .ret f S := (rfl)
/-- A loop, by what holds at its head. -/
theorem wp_loop {c b : CC} (hb : c = b) {Q : TX → Fr → TS → Prop} (Inv : Nat → Fr → TS → Prop) (hstep : ∀ k f S, Inv k f S → wp P loc callF b (loopI Inv k Q) f S) : ∀ (k : Nat) {f : Fr} {S : TS}, Inv k f S → wp P loc callF (.loop c) Q f S := by
  intro k
  induction k using Nat.strongRecOn with
  | _ k ih =>
    intro f S h
    refine wp_round hb (wp_mono (hstep k f S h) fun tx f S hq => ?_)
    cases tx with
    | normal => obtain ⟨k', hk, hi⟩ := hq; exact ih k' hk hi
    | exit i => exact hq
    | ret => exact hq
/-- A statement that may fall through, told once. -/
theorem wp_mid {c : CC} {Q : TX → Fr → TS → Prop} {f : Fr} {S : TS} (R : TX → Fr → TS → Prop) (h : wp P loc callF c R f S) (hq : ∀ tx f S, R tx f S → Q tx f S) : wp P loc callF c Q f S := wp_mono h hq
end
end Go.TL
/- Plans, as trees. -/
namespace Go.TL

structure Pt where
  x : Int
  y : Int
  deriving DecidableEq
structure Node where
  id : Int
  pt : Pt
  deriving DecidableEq
structure Arc where
  id : Int
  frm : Int
  to : Int
  via : List Pt
  left : Int
  right : Int
  deriving DecidableEq
structure Plan where
  nodes : List Node
  arcs : List Arc
  faces : List Int
  deriving DecidableEq

def Pt.e (p : Pt) : List RV := [cI p.x, cI p.y]
def Node.e (n : Node) : List RV := [cI n.id, cI n.pt.x, cI n.pt.y]
def Arc.e (a : Arc) : List RV := [cI a.id, cI a.frm, cI a.to, .lst (a.via.map Pt.e) none, cI a.left, cI a.right]
def int1 (n : Int) : List RV := [cI n]
def Plan.e (p : Plan) : TV := .agg [.r (.lst (p.nodes.map Node.e) none), .r (.lst (p.arcs.map Arc.e) none), .r (.lst (p.faces.map int1) none)]
def Arc.v (a : Arc) : TV := .agg [I a.id, I a.frm, I a.to, .r (.lst (a.via.map Pt.e) none), I a.left, I a.right]
def arc0 : TV := .agg [I 0, I 0, I 0, .r (.sc (.slice none 0 0)), I 0, I 0]

theorem map_inj {α β : Type} {f : α → β} (hf : ∀ a b, f a = f b → a = b) : ∀ {l k : List α}, l.map f = k.map f → l = k
  | [], [], _ => rfl
  | a :: l, b :: k, h => by
    simp only [List.map_cons, List.cons.injEq] at h
    rw [hf _ _ h.1, map_inj hf h.2]
  | [], _ :: _, h => by simp at h
  | _ :: _, [], h => by simp at h

theorem Pt.e_inj (a b : Pt) (h : a.e = b.e) : a = b := by
  cases a; cases b; simp [Pt.e] at h; simp [h]
theorem Node.e_inj (a b : Node) (h : a.e = b.e) : a = b := by
  obtain ⟨i, ⟨x, y⟩⟩ := a; obtain ⟨j, ⟨u, v⟩⟩ := b; simp [Node.e] at h; simp [h]
theorem Arc.e_inj (a b : Arc) (h : a.e = b.e) : a = b := by
  cases a; cases b
  simp only [Arc.e, List.cons.injEq, RV.sc.injEq, Value.int.injEq, RV.lst.injEq, true_and, and_true] at h
  obtain ⟨h1, h2, h3, h4, h5, h6⟩ := h
  have := map_inj Pt.e_inj h4
  simp [h1, h2, h3, h5, h6, this]
theorem int1_inj (a b : Int) (h : int1 a = int1 b) : a = b := by simpa [int1] using h
theorem Plan.e_inj (a b : Plan) (h : a.e = b.e) : a = b := by
  cases a; cases b
  simp only [Plan.e, TV.agg.injEq, List.cons.injEq, TV.r.injEq, RV.lst.injEq, and_true] at h
  obtain ⟨h1, h2, h3⟩ := h
  rw [map_inj Node.e_inj h1, map_inj Arc.e_inj h2, map_inj int1_inj h3]

theorem map_get {α β : Type} {f : α → β} {l : List α} {i : Nat} {a : α} (h : l[i]? = some a) : (l.map f)[i]? = some (f a) := by simp [h]

def inR (n : Int) : Prop := -9223372036854775808 ≤ n ∧ n ≤ 9223372036854775807
structure Plan.Ok (p : Plan) : Prop where
  nl : p.nodes.length ≤ 1048576
  al : p.arcs.length ≤ 1048576
  fl : p.faces.length ≤ 1048576
  vl : ∀ a, a ∈ p.arcs → a.via.length ≤ 1048576
  nr : ∀ n, n ∈ p.nodes → inR n.id ∧ inR n.pt.x ∧ inR n.pt.y
  ar : ∀ a, a ∈ p.arcs → inR a.id ∧ inR a.frm ∧ inR a.to ∧ inR a.left ∧ inR a.right ∧ ∀ v, v ∈ a.via → inR v.x ∧ inR v.y
  fr : ∀ n, n ∈ p.faces → inR n

theorem famLook_hit {x : Fam} {xs : List Fam} {f : Nat} {as : List TV} {v : KRes} (hf : x.f = f) (h : x.val as = some v) : famLook f as (x :: xs) = some v := by
  subst hf
  simp [famLook, h]
theorem famLook_miss {x : Fam} {xs : List Fam} {f : Nat} {as : List TV} (h : Nat.beq x.f f = false) : famLook f as (x :: xs) = famLook f as xs := by
  rw [famLook, h]; rfl

abbrev OkP := { p : Plan // p.Ok }
/-- Calls with a plan and a number. -/
noncomputable def famPI (f : Nat) (val : Plan → Int → TV) : Fam := mkFam (α := OkP × Int) f (fun x => [x.1.1.e, I x.2]) (fun x => val x.1.1 x.2)
theorem famPI_val {f : Nat} {val : Plan → Int → TV} {p : Plan} (hp : p.Ok) (d : Int) : (famPI f val).val [p.e, I d] = some (.flat (val p d)) :=
  mkFam_val (f := f) (enc := fun x : OkP × Int => [x.1.1.e, I x.2]) (val := fun x => val x.1.1 x.2) (fun a b h => by
    simp only [List.cons.injEq, and_true, TV.r.injEq, RV.sc.injEq, Value.int.injEq, true_and] at h
    rw [Plan.e_inj _ _ h.1, h.2]) (⟨p, hp⟩, d)
theorem famPI_good {P : Program} {f : Nat} {val : Plan → Int → TV} (h : ∀ p d, p.Ok → Known.Good P ⟨f, [p.e, I d], val p d⟩) : (famPI f val).Good P := mkFam_good fun x => h x.1.1 x.2 x.1.2
end Go.TL
/- From what is read of an argument to plans and numbers. -/
namespace Go.TL

section
variable {P : Program} {L : Nat}

theorem shape_int {m : Nat} {t : TypeId} {xs : List RV} (hu : P.underlying t = some (.int .i64)) (h : Shape P L m t xs) : ∃ n, xs = [cI n] ∧ inR n := by
  cases m with
  | zero => exact h.elim
  | succ m =>
    simp only [Shape, hu] at h
    obtain ⟨n, h1, h2⟩ := h
    refine ⟨n, h1, ?_⟩
    simp [Lit.wf, IntKind.min, IntKind.max, IntKind.signed, IntKind.bits] at h2
    unfold inR; omega
theorem shape_slice {m : Nat} {t e : TypeId} {xs : List RV} (hu : P.underlying t = some (.slice e)) (h : Shape P L m t xs) : ∃ es, xs = [.lst es none] ∧ es.length ≤ L ∧ ∀ el, el ∈ es → ∃ m', Shape P L m' e el := by
  cases m with
  | zero => exact h.elim
  | succ m =>
    simp only [Shape, hu] at h
    obtain ⟨es, h1, h2, h3⟩ := h
    exact ⟨es, h1, h2, fun el he => ⟨m, (h3 el he).2⟩⟩
theorem shape_struct {m : Nat} {t : TypeId} {fs : Array Field} {xs : List RV} (hu : P.underlying t = some (.struct fs)) (h : Shape P L m t xs) : xs.length = P.cellsOf t ∧ ∀ f, f ∈ fs.toList → ∃ m', Shape P L m' f.type ((xs.drop f.offset).take (P.cellsOf f.type)) := by
  cases m with
  | zero => exact h.elim
  | succ m =>
    simp only [Shape, hu] at h
    exact ⟨h.1, fun f hf => ⟨m, h.2 f hf⟩⟩

theorem list_dec {α : Type} {enc : α → List RV} {ok : α → Prop} : ∀ {es : List (List RV)}, (∀ el, el ∈ es → ∃ a, el = enc a ∧ ok a) → ∃ l : List α, es = l.map enc ∧ ∀ a, a ∈ l → ok a
  | [], _ => ⟨[], rfl, by simp⟩
  | el :: es, h => by
    obtain ⟨a, rfl, ha⟩ := h _ (List.mem_cons_self ..)
    obtain ⟨l, rfl, hl⟩ := list_dec (fun el he => h el (List.mem_cons_of_mem _ he))
    exact ⟨a :: l, rfl, fun b hb => (List.mem_cons.1 hb).elim (fun h => h ▸ ha) (hl b)⟩

/-- The types of a plan, by their numbers: int, Point, []Point, Node, []Node, Arc, []Arc, []int, Plan. -/
structure PlanTy (P : Program) (ti tp tps tn tns ta tas tis tpl : TypeId) : Prop where
  i : P.underlying ti = some (.int .i64)
  ci : P.cellsOf ti = 1
  p : ∃ f g, P.underlying tp = some (.struct #[f, g]) ∧ f.type = ti ∧ g.type = ti ∧ f.offset = 0 ∧ g.offset = 1
  cp : P.cellsOf tp = 2
  ps : P.underlying tps = some (.slice tp)
  cps : P.cellsOf tps = 1
  n : ∃ f g, P.underlying tn = some (.struct #[f, g]) ∧ f.type = ti ∧ g.type = tp ∧ f.offset = 0 ∧ g.offset = 1
  cn : P.cellsOf tn = 3
  ns : P.underlying tns = some (.slice tn)
  cns : P.cellsOf tns = 1
  a : ∃ f g h i j k, P.underlying ta = some (.struct #[f, g, h, i, j, k]) ∧ f.type = ti ∧ g.type = ti ∧ h.type = ti ∧ i.type = tps ∧ j.type = ti ∧ k.type = ti ∧ f.offset = 0 ∧ g.offset = 1 ∧ h.offset = 2 ∧ i.offset = 3 ∧ j.offset = 4 ∧ k.offset = 5
  ca : P.cellsOf ta = 6
  as_ : P.underlying tas = some (.slice ta)
  cas : P.cellsOf tas = 1
  is_ : P.underlying tis = some (.slice ti)
  cis : P.cellsOf tis = 1
  pl : ∃ f g h, P.underlying tpl = some (.struct #[f, g, h]) ∧ f.type = tns ∧ g.type = tas ∧ h.type = tis ∧ f.offset = 0 ∧ g.offset = 1 ∧ h.offset = 2
  cpl : P.cellsOf tpl = 3

variable {ti tp tps tn tns ta tas tis tpl : TypeId}

theorem pt_shape (T : PlanTy P ti tp tps tn tns ta tas tis tpl) {m : Nat} {xs : List RV} (h : Shape P L m tp xs) : ∃ v : Pt, xs = v.e ∧ inR v.x ∧ inR v.y := by
  obtain ⟨f, g, hu, h1, h2, h3, h4⟩ := T.p
  obtain ⟨hl, hf⟩ := shape_struct hu h
  rw [T.cp] at hl
  match xs, hl with
  | [a, b], _ =>
    obtain ⟨m1, s1⟩ := hf f (by simp)
    obtain ⟨m2, s2⟩ := hf g (by simp)
    rw [h1, h3, T.ci] at s1
    rw [h2, h4, T.ci] at s2
    obtain ⟨x, e1, r1⟩ := shape_int T.i s1
    obtain ⟨y, e2, r2⟩ := shape_int T.i s2
    simp only [List.drop_succ_cons, List.drop_zero, List.take_succ_cons, List.take_zero, List.cons.injEq, and_true] at e1 e2
    subst e1; subst e2
    exact ⟨⟨x, y⟩, rfl, r1, r2⟩

theorem node_shape (T : PlanTy P ti tp tps tn tns ta tas tis tpl) {m : Nat} {xs : List RV} (h : Shape P L m tn xs) : ∃ v : Node, xs = v.e ∧ inR v.id ∧ inR v.pt.x ∧ inR v.pt.y := by
  obtain ⟨f, g, hu, h1, h2, h3, h4⟩ := T.n
  obtain ⟨hl, hf⟩ := shape_struct hu h
  rw [T.cn] at hl
  match xs, hl with
  | [a, b, c], _ =>
    obtain ⟨m1, s1⟩ := hf f (by simp)
    obtain ⟨m2, s2⟩ := hf g (by simp)
    rw [h1, h3, T.ci] at s1
    rw [h2, h4, T.cp] at s2
    obtain ⟨x, e1, r1⟩ := shape_int T.i s1
    obtain ⟨v, e2, r2⟩ := pt_shape T s2
    simp only [List.drop_succ_cons, List.drop_zero, List.take_succ_cons, List.take_zero, List.cons.injEq, and_true, Pt.e] at e1 e2
    obtain ⟨e2, e3⟩ := e2
    subst e1; subst e2; subst e3
    exact ⟨⟨x, v⟩, rfl, r1, r2⟩

theorem arc_shape (T : PlanTy P ti tp tps tn tns ta tas tis tpl) {m : Nat} {xs : List RV} (h : Shape P L m ta xs) :
    ∃ a : Arc, xs = a.e ∧ a.via.length ≤ L ∧ inR a.id ∧ inR a.frm ∧ inR a.to ∧ inR a.left ∧ inR a.right ∧ ∀ v, v ∈ a.via → inR v.x ∧ inR v.y := by
  obtain ⟨f1, f2, f3, f4, f5, f6, hu, t1, t2, t3, t4, t5, t6, o1, o2, o3, o4, o5, o6⟩ := T.a
  obtain ⟨hl, hf⟩ := shape_struct hu h
  rw [T.ca] at hl
  match xs, hl with
  | [a1, a2, a3, a4, a5, a6], _ =>
    obtain ⟨m1, s1⟩ := hf f1 (by simp)
    obtain ⟨m2, s2⟩ := hf f2 (by simp)
    obtain ⟨m3, s3⟩ := hf f3 (by simp)
    obtain ⟨m4, s4⟩ := hf f4 (by simp)
    obtain ⟨m5, s5⟩ := hf f5 (by simp)
    obtain ⟨m6, s6⟩ := hf f6 (by simp)
    rw [t1, o1, T.ci] at s1
    rw [t2, o2, T.ci] at s2
    rw [t3, o3, T.ci] at s3
    rw [t4, o4, T.cps] at s4
    rw [t5, o5, T.ci] at s5
    rw [t6, o6, T.ci] at s6
    obtain ⟨x1, e1, r1⟩ := shape_int T.i s1
    obtain ⟨x2, e2, r2⟩ := shape_int T.i s2
    obtain ⟨x3, e3, r3⟩ := shape_int T.i s3
    obtain ⟨es, e4, l4, r4⟩ := shape_slice T.ps s4
    obtain ⟨x5, e5, r5⟩ := shape_int T.i s5
    obtain ⟨x6, e6, r6⟩ := shape_int T.i s6
    simp only [List.drop_succ_cons, List.drop_zero, List.take_succ_cons, List.take_zero, List.cons.injEq, and_true] at e1 e2 e3 e4 e5 e6
    subst e1; subst e2; subst e3; subst e4; subst e5; subst e6
    obtain ⟨l, rfl, hl⟩ := list_dec (enc := Pt.e) (ok := fun v => inR v.x ∧ inR v.y) (fun el he => by
      obtain ⟨m', hm'⟩ := r4 el he
      obtain ⟨v, hv, h1, h2⟩ := pt_shape T hm'
      exact ⟨v, hv, h1, h2⟩)
    exact ⟨⟨x1, x2, x3, l, x5, x6⟩, rfl, by simpa using l4, r1, r2, r3, r5, r6, hl⟩

theorem plan_shape (T : PlanTy P ti tp tps tn tns ta tas tis tpl) {m : Nat} {xs : List RV} (hL : L ≤ 1048576) (h : Shape P L m tpl xs) : ∃ p : Plan, .agg (xs.map .r) = p.e ∧ p.Ok := by
  obtain ⟨f1, f2, f3, hu, t1, t2, t3, o1, o2, o3⟩ := T.pl
  obtain ⟨hl, hf⟩ := shape_struct hu h
  rw [T.cpl] at hl
  match xs, hl with
  | [a1, a2, a3], _ =>
    obtain ⟨m1, s1⟩ := hf f1 (by simp)
    obtain ⟨m2, s2⟩ := hf f2 (by simp)
    obtain ⟨m3, s3⟩ := hf f3 (by simp)
    rw [t1, o1, T.cns] at s1
    rw [t2, o2, T.cas] at s2
    rw [t3, o3, T.cis] at s3
    obtain ⟨e1, q1, l1, r1⟩ := shape_slice T.ns s1
    obtain ⟨e2, q2, l2, r2⟩ := shape_slice T.as_ s2
    obtain ⟨e3, q3, l3, r3⟩ := shape_slice T.is_ s3
    simp only [List.drop_succ_cons, List.drop_zero, List.take_succ_cons, List.take_zero, List.cons.injEq, and_true] at q1 q2 q3
    subst q1; subst q2; subst q3
    obtain ⟨n, rfl, hn⟩ := list_dec (enc := Node.e) (ok := fun v => inR v.id ∧ inR v.pt.x ∧ inR v.pt.y) (fun el he => by
      obtain ⟨m', hm'⟩ := r1 el he
      obtain ⟨v, hv, h1⟩ := node_shape T hm'
      exact ⟨v, hv, h1⟩)
    obtain ⟨a, rfl, ha⟩ := list_dec (enc := Arc.e) (ok := fun a => a.via.length ≤ L ∧ inR a.id ∧ inR a.frm ∧ inR a.to ∧ inR a.left ∧ inR a.right ∧ ∀ v, v ∈ a.via → inR v.x ∧ inR v.y) (fun el he => by
      obtain ⟨m', hm'⟩ := r2 el he
      obtain ⟨v, hv, h1⟩ := arc_shape T hm'
      exact ⟨v, hv, h1⟩)
    obtain ⟨i, rfl, hi⟩ := list_dec (enc := int1) (ok := inR) (fun el he => by
      obtain ⟨m', hm'⟩ := r3 el he
      obtain ⟨v, hv, h1⟩ := shape_int T.i hm'
      exact ⟨v, hv, h1⟩)
    rw [List.length_map] at l1 l2 l3
    exact ⟨⟨n, a, i⟩, rfl, ⟨by simpa using Nat.le_trans l1 hL, Nat.le_trans l2 hL, Nat.le_trans l3 hL, fun x hx => Nat.le_trans (ha x hx).1 hL, hn, fun x hx => (ha x hx).2, hi⟩⟩
end

/- Reading back. -/
section
variable {H : Type} {enc : TypeId × Value → H} {P : Program} {W W' : World} {sp : Nat → Bool}

theorem carryAll : ∀ {ts : List TypeId} {vs : List Value} {ds : List (DataW H)} {ps : List MemPlace}, DataW.TrodAll enc P W 0 sp true ts vs ds ps → (∀ p ∈ ps, W.sameAt W' p) → DataW.TrodAll enc P W' 0 sp true ts vs ds ps
  | [], [], [], _, h, _ => h
  | _ :: _, _ :: _, _ :: _, _, ⟨p, q, h1, h2, e⟩, hs => by
    obtain ⟨n, hn⟩ := h1
    exact ⟨p, q, ⟨n, DataW.trod_carry n _ _ _ hn fun x hx => hs x (by rw [e]; exact List.mem_append_left _ hx)⟩, carryAll h2 (fun x hx => hs x (by rw [e]; exact List.mem_append_right _ hx)), e⟩

theorem same_at (hg : ∀ b, b < W.heap.size → W'.heap[b]? = W.heap[b]?) {p : MemPlace} (hp : p.block < W.heap.size) : W.sameAt W' p := by
  cases p with
  | cell b off => simp only [World.sameAt, World.cell?, hg b hp]
  | map b => exact hg b hp
end
end Go.TL
/- The equations of a walk, in bundles (printed by program). -/
namespace Go.TL
theorem ws0 : type_of% (And.intro @Go.TL.loopI_normal (And.intro @Go.TL.loopI_exit (And.intro @Go.TL.loopI_ret (And.intro @Go.TL.loopK_normal (And.intro @Go.TL.loopK_exit (And.intro @Go.TL.loopK_ret (And.intro @Go.TL.wp_region (And.intro @Go.TL.wp_seq (And.intro @Go.TL.wp_block (And.intro @Go.TL.wp_cond (And.intro @Go.TL.wp_skip (And.intro @Go.TL.wp_exit (And.intro @Go.TL.wp_ret (And.intro @Go.TL.seqK_normal (And.intro @Go.TL.seqK_ret (And.intro @Go.TL.seqK_exit (And.intro @Go.TL.blockK_normal (And.intro @Go.TL.blockK_ret (And.intro @Go.TL.blockK_exit (And.intro @Go.TL.condK_bool (And.intro @Go.TL.wpX_nil (And.intro @Go.TL.wpX_none (And.intro @Go.TL.wpX_some (And.intro @Go.TL.goX_eq (And.intro @Go.TL.noX_eq (And.intro @Go.TL.noX_none (And.intro @Go.TL.runO_some (And.intro @Go.TL.runO_oval (And.intro @Go.TL.askG_tup (And.intro @Go.TL.askG_tt (And.intro @Go.TL.askG_tf (And.intro @Go.TL.askG_ft (And.intro @Go.TL.askG_ff (And.intro @Go.TL.askG_t (And.intro @Go.TL.askG_f (And.intro @Go.TL.contX_v (And.intro @Go.TL.contX_fp (And.intro @Go.TL.contX_lv (And.intro @Go.TL.contX_none (@Go.TL.regK_nil)))))))))))))))))))))))))))))))))))))))) := And.intro @Go.TL.loopI_normal (And.intro @Go.TL.loopI_exit (And.intro @Go.TL.loopI_ret (And.intro @Go.TL.loopK_normal (And.intro @Go.TL.loopK_exit (And.intro @Go.TL.loopK_ret (And.intro @Go.TL.wp_region (And.intro @Go.TL.wp_seq (And.intro @Go.TL.wp_block (And.intro @Go.TL.wp_cond (And.intro @Go.TL.wp_skip (And.intro @Go.TL.wp_exit (And.intro @Go.TL.wp_ret (And.intro @Go.TL.seqK_normal (And.intro @Go.TL.seqK_ret (And.intro @Go.TL.seqK_exit (And.intro @Go.TL.blockK_normal (And.intro @Go.TL.blockK_ret (And.intro @Go.TL.blockK_exit (And.intro @Go.TL.condK_bool (And.intro @Go.TL.wpX_nil (And.intro @Go.TL.wpX_none (And.intro @Go.TL.wpX_some (And.intro @Go.TL.goX_eq (And.intro @Go.TL.noX_eq (And.intro @Go.TL.noX_none (And.intro @Go.TL.runO_some (And.intro @Go.TL.runO_oval (And.intro @Go.TL.askG_tup (And.intro @Go.TL.askG_tt (And.intro @Go.TL.askG_tf (And.intro @Go.TL.askG_ft (And.intro @Go.TL.askG_ff (And.intro @Go.TL.askG_t (And.intro @Go.TL.askG_f (And.intro @Go.TL.contX_v (And.intro @Go.TL.contX_fp (And.intro @Go.TL.contX_lv (And.intro @Go.TL.contX_none (@Go.TL.regK_nil)))))))))))))))))))))))))))))))))))))))
theorem ws1 : type_of% (And.intro @Go.TL.regK_cons (And.intro @Go.TL.isFp_r (And.intro @Go.TL.isFp_agg (And.intro @Go.TL.isFp_tup (And.intro @Go.TL.isFp_ptr (And.intro @Go.TL.isFp_sl (And.intro @Go.TL.isFp_mp (And.intro @Go.TL.isFp_fn (And.intro @Go.TL.isFp_ep (And.intro @Go.TL.isFp_ap (And.intro @Go.TL.isFp_und (And.intro @Go.TL.isFp_lv (And.intro @Go.TL.isLv_r (And.intro @Go.TL.isLv_agg (And.intro @Go.TL.isLv_tup (And.intro @Go.TL.isLv_ptr (And.intro @Go.TL.isLv_sl (And.intro @Go.TL.isLv_mp (And.intro @Go.TL.isLv_fn (And.intro @Go.TL.isLv_ep (And.intro @Go.TL.isLv_ap (And.intro @Go.TL.isLv_und (And.intro @Go.TL.unfp_fp (And.intro @Go.TL.unfp_r (And.intro @Go.TL.unfp_agg (And.intro @Go.TL.unfp_lv (And.intro @Go.TL.unfp_tup (And.intro @Go.TL.unfp_ptr (And.intro @Go.TL.unfp_sl (And.intro @Go.TL.unfp_mp (And.intro @Go.TL.unfp_fn (And.intro @Go.TL.unfp_ep (And.intro @Go.TL.unfp_ap (And.intro @Go.TL.lvp_sl (And.intro @Go.TL.lvp_mp (And.intro @Go.TL.lvp_fn (And.intro @Go.TL.lvp_ep (And.intro @Go.TL.lvp_ap (And.intro @Go.TL.askB_true (@Go.TL.askB_false)))))))))))))))))))))))))))))))))))))))) := And.intro @Go.TL.regK_cons (And.intro @Go.TL.isFp_r (And.intro @Go.TL.isFp_agg (And.intro @Go.TL.isFp_tup (And.intro @Go.TL.isFp_ptr (And.intro @Go.TL.isFp_sl (And.intro @Go.TL.isFp_mp (And.intro @Go.TL.isFp_fn (And.intro @Go.TL.isFp_ep (And.intro @Go.TL.isFp_ap (And.intro @Go.TL.isFp_und (And.intro @Go.TL.isFp_lv (And.intro @Go.TL.isLv_r (And.intro @Go.TL.isLv_agg (And.intro @Go.TL.isLv_tup (And.intro @Go.TL.isLv_ptr (And.intro @Go.TL.isLv_sl (And.intro @Go.TL.isLv_mp (And.intro @Go.TL.isLv_fn (And.intro @Go.TL.isLv_ep (And.intro @Go.TL.isLv_ap (And.intro @Go.TL.isLv_und (And.intro @Go.TL.unfp_fp (And.intro @Go.TL.unfp_r (And.intro @Go.TL.unfp_agg (And.intro @Go.TL.unfp_lv (And.intro @Go.TL.unfp_tup (And.intro @Go.TL.unfp_ptr (And.intro @Go.TL.unfp_sl (And.intro @Go.TL.unfp_mp (And.intro @Go.TL.unfp_fn (And.intro @Go.TL.unfp_ep (And.intro @Go.TL.unfp_ap (And.intro @Go.TL.lvp_sl (And.intro @Go.TL.lvp_mp (And.intro @Go.TL.lvp_fn (And.intro @Go.TL.lvp_ep (And.intro @Go.TL.lvp_ap (And.intro @Go.TL.askB_true (@Go.TL.askB_false)))))))))))))))))))))))))))))))))))))))
theorem ws2 : type_of% (And.intro @Go.TL.askB_dec (And.intro @Go.TL.askB_beq (And.intro @Go.TL.askB_bne (And.intro @Go.TL.xoT_neg (And.intro @Go.TL.negX_int (And.intro @Go.TL.xoT.eq_1 (And.intro @Go.TL.xoT.eq_2 (And.intro @Go.TL.xoT.eq_3 (And.intro @Go.TL.xoT.eq_4 (And.intro @Go.TL.xoT.eq_5 (And.intro @Go.TL.xoT.eq_6 (And.intro @Go.TL.xoT.eq_7 (And.intro @Go.TL.xoT.eq_8 (And.intro @Go.TL.xoT.eq_9 (And.intro @Go.TL.xoT.eq_10 (And.intro @Go.TL.xoT.eq_11 (And.intro @Go.TL.xoT.eq_13 (And.intro @Go.TL.xoT.eq_14 (And.intro @Go.TL.xoT.eq_15 (And.intro @Go.TL.xoT.eq_16 (And.intro @Go.TL.xoT.eq_17 (And.intro @Go.TL.xoT.eq_18 (And.intro @Go.TL.xoT.eq_19 (And.intro @Go.TL.xoT.eq_20 (And.intro @Go.TL.xoT.eq_21 (And.intro @Go.TL.xoT.eq_22 (And.intro @Go.TL.xoT.eq_23 (And.intro @Go.TL.xoT.eq_24 (And.intro @Go.TL.xoT.eq_25 (And.intro @Go.TL.xoT.eq_26 (And.intro @Go.TL.xoT.eq_27 (And.intro @Go.TL.xoT.eq_29 (And.intro @Go.TL.opF_tmp (And.intro @Go.TL.opF_func (And.intro @Go.TL.opF_int (And.intro @Go.TL.opF_bool (And.intro @Go.TL.opF_nil (And.intro @Go.TL.lvp_r (And.intro @Go.TL.lvp_agg (@Go.TL.lvp_tup)))))))))))))))))))))))))))))))))))))))) := And.intro @Go.TL.askB_dec (And.intro @Go.TL.askB_beq (And.intro @Go.TL.askB_bne (And.intro @Go.TL.xoT_neg (And.intro @Go.TL.negX_int (And.intro @Go.TL.xoT.eq_1 (And.intro @Go.TL.xoT.eq_2 (And.intro @Go.TL.xoT.eq_3 (And.intro @Go.TL.xoT.eq_4 (And.intro @Go.TL.xoT.eq_5 (And.intro @Go.TL.xoT.eq_6 (And.intro @Go.TL.xoT.eq_7 (And.intro @Go.TL.xoT.eq_8 (And.intro @Go.TL.xoT.eq_9 (And.intro @Go.TL.xoT.eq_10 (And.intro @Go.TL.xoT.eq_11 (And.intro @Go.TL.xoT.eq_13 (And.intro @Go.TL.xoT.eq_14 (And.intro @Go.TL.xoT.eq_15 (And.intro @Go.TL.xoT.eq_16 (And.intro @Go.TL.xoT.eq_17 (And.intro @Go.TL.xoT.eq_18 (And.intro @Go.TL.xoT.eq_19 (And.intro @Go.TL.xoT.eq_20 (And.intro @Go.TL.xoT.eq_21 (And.intro @Go.TL.xoT.eq_22 (And.intro @Go.TL.xoT.eq_23 (And.intro @Go.TL.xoT.eq_24 (And.intro @Go.TL.xoT.eq_25 (And.intro @Go.TL.xoT.eq_26 (And.intro @Go.TL.xoT.eq_27 (And.intro @Go.TL.xoT.eq_29 (And.intro @Go.TL.opF_tmp (And.intro @Go.TL.opF_func (And.intro @Go.TL.opF_int (And.intro @Go.TL.opF_bool (And.intro @Go.TL.opF_nil (And.intro @Go.TL.lvp_r (And.intro @Go.TL.lvp_agg (@Go.TL.lvp_tup)))))))))))))))))))))))))))))))))))))))
theorem ws3 : type_of% (And.intro @Go.TL.lvp_ptr (And.intro @Go.TL.lvp_fp (And.intro @Go.TL.lvp_lv (And.intro @Go.TL.upd_eq (And.intro @Go.TL.upd_ne (And.intro @Go.TL.noFpL_nil (And.intro @Go.TL.noFpL_cons (And.intro @Go.TL.noFp1_r (And.intro @Go.TL.noFp1_agg (And.intro @Go.TL.noFp1_lv (And.intro @Go.TL.noFp1_tup (And.intro @Go.TL.noFp1_ptr (And.intro @Go.TL.noFp1_sl (And.intro @Go.TL.noFp1_mp (And.intro @Go.TL.noFp1_fn (And.intro @Go.TL.noFp1_ep (And.intro @Go.TL.noFp1_ap (And.intro @Go.TL.noFp1_und (And.intro @Go.TL.noFp1_fp (And.intro @Go.TL.updW.eq_1 (And.intro @Go.TL.updW.eq_2 (And.intro @Go.TL.Eff.frF.eq_1 (And.intro @Go.TL.Eff.frF.eq_2 (And.intro @Go.TL.Eff.S.eq_1 (And.intro @Go.TL.Eff.S.eq_2 (And.intro @Go.TL.Eff.S.eq_3 (And.intro @Go.TL.Eff.S.eq_4 (And.intro @Go.TL.Eff.ek.eq_1 (And.intro @Go.TL.Eff.ek.eq_2 (And.intro @Go.TL.Eff.ek.eq_3 (And.intro @Go.TL.Eff.ek.eq_4 (And.intro @Go.TL.Eff.ek.eq_5 (And.intro @Go.TL.Eff.ek.eq_6 (And.intro @Go.TL.Eff.ek.eq_7 (And.intro @Go.TL.ovalO.eq_1 (And.intro @Go.TL.ovalO.eq_2 (And.intro @Go.TL.addOff.eq_1 (And.intro @Go.TL.addOff.eq_2 (And.intro @Go.TL.addOff.eq_3 (@Go.TL.addOff.eq_4)))))))))))))))))))))))))))))))))))))))) := And.intro @Go.TL.lvp_ptr (And.intro @Go.TL.lvp_fp (And.intro @Go.TL.lvp_lv (And.intro @Go.TL.upd_eq (And.intro @Go.TL.upd_ne (And.intro @Go.TL.noFpL_nil (And.intro @Go.TL.noFpL_cons (And.intro @Go.TL.noFp1_r (And.intro @Go.TL.noFp1_agg (And.intro @Go.TL.noFp1_lv (And.intro @Go.TL.noFp1_tup (And.intro @Go.TL.noFp1_ptr (And.intro @Go.TL.noFp1_sl (And.intro @Go.TL.noFp1_mp (And.intro @Go.TL.noFp1_fn (And.intro @Go.TL.noFp1_ep (And.intro @Go.TL.noFp1_ap (And.intro @Go.TL.noFp1_und (And.intro @Go.TL.noFp1_fp (And.intro @Go.TL.updW.eq_1 (And.intro @Go.TL.updW.eq_2 (And.intro @Go.TL.Eff.frF.eq_1 (And.intro @Go.TL.Eff.frF.eq_2 (And.intro @Go.TL.Eff.S.eq_1 (And.intro @Go.TL.Eff.S.eq_2 (And.intro @Go.TL.Eff.S.eq_3 (And.intro @Go.TL.Eff.S.eq_4 (And.intro @Go.TL.Eff.ek.eq_1 (And.intro @Go.TL.Eff.ek.eq_2 (And.intro @Go.TL.Eff.ek.eq_3 (And.intro @Go.TL.Eff.ek.eq_4 (And.intro @Go.TL.Eff.ek.eq_5 (And.intro @Go.TL.Eff.ek.eq_6 (And.intro @Go.TL.Eff.ek.eq_7 (And.intro @Go.TL.ovalO.eq_1 (And.intro @Go.TL.ovalO.eq_2 (And.intro @Go.TL.addOff.eq_1 (And.intro @Go.TL.addOff.eq_2 (And.intro @Go.TL.addOff.eq_3 (@Go.TL.addOff.eq_4)))))))))))))))))))))))))))))))))))))))
theorem ws4 : type_of% (And.intro @Go.TL.addOff.eq_5 (And.intro @Go.TL.loadF_fp (And.intro @Go.TL.loadF_ptr (And.intro @Go.TL.loadF_ap (And.intro @Go.TL.loadF_epc (And.intro @Go.TL.storeF.eq_1 (And.intro @Go.TL.storeF.eq_2 (And.intro @Go.TL.storeF.eq_3 (And.intro @Go.TL.storeF.eq_4 (And.intro @Go.TL.partC.eq_1 (And.intro @Go.TL.TV.cells.eq_1 (And.intro @Go.TL.TV.cells.eq_2 (And.intro @Option.some.injEq.{0} (And.intro @Go.TL.retT.eq_1 (And.intro @Go.TL.retT.eq_2 (And.intro @Go.TL.retT.eq_3 (And.intro @Go.TL.freezeVs.eq_1 (And.intro @Go.TL.freezeVs.eq_2 (And.intro @Go.TL.freezeV.eq_1 (And.intro @Go.TL.freezeV.eq_2 (And.intro @Go.TL.freezeV.eq_3 (And.intro @Go.TL.freezeL.eq_1 (And.intro @Go.TL.freezeL.eq_2 (And.intro @Go.TL.freeze1.eq_1 (And.intro @Go.TL.freeze1.eq_2 (And.intro @Go.TL.freeze1.eq_3 (And.intro @Go.TL.freeze1.eq_4 (And.intro @Go.TL.freeze1.eq_5 (And.intro @Go.TL.one.eq_1 (And.intro @Go.TL.one.eq_2 (And.intro @Go.TL.leaks.eq_1 (And.intro @Go.TL.leaks.eq_2 (And.intro @Go.TL.leaks.eq_3 (And.intro @List.any_cons.{0} (And.intro @List.any_nil.{0} (And.intro @Go.TL.TV.refGe.eq_1 (And.intro @Go.TL.TV.refGe.eq_2 (And.intro @Go.TL.refGe1.eq_1 (And.intro @Go.TL.refGe1.eq_2 (@Go.TL.refGe1.eq_3)))))))))))))))))))))))))))))))))))))))) := And.intro @Go.TL.addOff.eq_5 (And.intro @Go.TL.loadF_fp (And.intro @Go.TL.loadF_ptr (And.intro @Go.TL.loadF_ap (And.intro @Go.TL.loadF_epc (And.intro @Go.TL.storeF.eq_1 (And.intro @Go.TL.storeF.eq_2 (And.intro @Go.TL.storeF.eq_3 (And.intro @Go.TL.storeF.eq_4 (And.intro @Go.TL.partC.eq_1 (And.intro @Go.TL.TV.cells.eq_1 (And.intro @Go.TL.TV.cells.eq_2 (And.intro @Option.some.injEq.{0} (And.intro @Go.TL.retT.eq_1 (And.intro @Go.TL.retT.eq_2 (And.intro @Go.TL.retT.eq_3 (And.intro @Go.TL.freezeVs.eq_1 (And.intro @Go.TL.freezeVs.eq_2 (And.intro @Go.TL.freezeV.eq_1 (And.intro @Go.TL.freezeV.eq_2 (And.intro @Go.TL.freezeV.eq_3 (And.intro @Go.TL.freezeL.eq_1 (And.intro @Go.TL.freezeL.eq_2 (And.intro @Go.TL.freeze1.eq_1 (And.intro @Go.TL.freeze1.eq_2 (And.intro @Go.TL.freeze1.eq_3 (And.intro @Go.TL.freeze1.eq_4 (And.intro @Go.TL.freeze1.eq_5 (And.intro @Go.TL.one.eq_1 (And.intro @Go.TL.one.eq_2 (And.intro @Go.TL.leaks.eq_1 (And.intro @Go.TL.leaks.eq_2 (And.intro @Go.TL.leaks.eq_3 (And.intro @List.any_cons.{0} (And.intro @List.any_nil.{0} (And.intro @Go.TL.TV.refGe.eq_1 (And.intro @Go.TL.TV.refGe.eq_2 (And.intro @Go.TL.refGe1.eq_1 (And.intro @Go.TL.refGe1.eq_2 (@Go.TL.refGe1.eq_3)))))))))))))))))))))))))))))))))))))))
theorem ws5 : type_of% (And.intro @Go.TL.refGe1.eq_4 (And.intro @List.flatMap_nil.{0,0} (And.intro @List.flatMap_cons.{0,0} (And.intro @Go.TL.sl1.eq_1 (And.intro @Go.TL.sl1.eq_2 (And.intro @Go.TL.chunks.eq_1 (And.intro @Go.TL.chunks.eq_2 (And.intro @Go.TL.appendX_copy0 (And.intro @Go.TL.okCell.eq_1 (And.intro @Go.TL.okCell.eq_2 (And.intro @Go.TL.okCell.eq_3 (And.intro @Go.TL.okCell.eq_4 (And.intro @Go.TL.okCell.eq_5 (And.intro @Go.TL.okCell.eq_6 (And.intro @Go.TL.okCell.eq_7 (And.intro @Go.TL.okRef.eq_1 (And.intro @Go.TL.okRef.eq_2 (And.intro @Go.TL.okRef.eq_3 (And.intro @Go.TL.okRef.eq_4 (And.intro @Go.TL.okRef.eq_5 (And.intro @Go.TL.okRef.eq_6 (And.intro @Go.TL.okV.eq_1 (And.intro @Go.TL.okV.eq_2 (And.intro @Go.TL.okV.eq_3 (And.intro @Go.TL.asBoolT.eq_1 (And.intro @Go.TL.asBoolT.eq_2 (And.intro @Go.TL.asIntT.eq_1 (And.intro @Go.TL.asIntT.eq_2 (And.intro @Go.TL.binX.eq_1 (And.intro @Go.TL.binX.eq_2 (And.intro @Go.TL.binX.eq_3 (And.intro @Go.TL.binX.eq_4 (And.intro @Go.TL.intBin.eq_1 (And.intro @Go.TL.intBin.eq_2 (And.intro @Go.TL.intBin.eq_3 (And.intro @Go.TL.intBin.eq_4 (And.intro @Go.TL.intBin.eq_5 (And.intro @Go.TL.intBin.eq_6 (And.intro @Go.TL.intBin.eq_7 (@Go.TL.intBin.eq_8)))))))))))))))))))))))))))))))))))))))) := And.intro @Go.TL.refGe1.eq_4 (And.intro @List.flatMap_nil.{0,0} (And.intro @List.flatMap_cons.{0,0} (And.intro @Go.TL.sl1.eq_1 (And.intro @Go.TL.sl1.eq_2 (And.intro @Go.TL.chunks.eq_1 (And.intro @Go.TL.chunks.eq_2 (And.intro @Go.TL.appendX_copy0 (And.intro @Go.TL.okCell.eq_1 (And.intro @Go.TL.okCell.eq_2 (And.intro @Go.TL.okCell.eq_3 (And.intro @Go.TL.okCell.eq_4 (And.intro @Go.TL.okCell.eq_5 (And.intro @Go.TL.okCell.eq_6 (And.intro @Go.TL.okCell.eq_7 (And.intro @Go.TL.okRef.eq_1 (And.intro @Go.TL.okRef.eq_2 (And.intro @Go.TL.okRef.eq_3 (And.intro @Go.TL.okRef.eq_4 (And.intro @Go.TL.okRef.eq_5 (And.intro @Go.TL.okRef.eq_6 (And.intro @Go.TL.okV.eq_1 (And.intro @Go.TL.okV.eq_2 (And.intro @Go.TL.okV.eq_3 (And.intro @Go.TL.asBoolT.eq_1 (And.intro @Go.TL.asBoolT.eq_2 (And.intro @Go.TL.asIntT.eq_1 (And.intro @Go.TL.asIntT.eq_2 (And.intro @Go.TL.binX.eq_1 (And.intro @Go.TL.binX.eq_2 (And.intro @Go.TL.binX.eq_3 (And.intro @Go.TL.binX.eq_4 (And.intro @Go.TL.intBin.eq_1 (And.intro @Go.TL.intBin.eq_2 (And.intro @Go.TL.intBin.eq_3 (And.intro @Go.TL.intBin.eq_4 (And.intro @Go.TL.intBin.eq_5 (And.intro @Go.TL.intBin.eq_6 (And.intro @Go.TL.intBin.eq_7 (@Go.TL.intBin.eq_8)))))))))))))))))))))))))))))))))))))))
theorem ws6 : type_of% (And.intro @Go.TL.intBin.eq_9 (And.intro @Go.TL.intBin.eq_10 (And.intro @Go.TL.intBin.eq_11 (And.intro @Go.TL.intBin.eq_12 (And.intro @Go.TL.indexSl_nat (And.intro @Go.TL.evP.eq_1 (And.intro @Go.TL.fillT.eq_1 (And.intro @Go.TL.fillT.eq_2 (And.intro @Go.TL.lenT.eq_1 (And.intro @Go.TL.lenT.eq_2 (And.intro @Go.TL.lenT.eq_3 (And.intro @Go.TL.lenT.eq_4 (And.intro @Go.TL.noClashK.eq_1 (And.intro @Go.TL.noClashK.eq_2 (And.intro @Go.TL.ck_none_l (And.intro @Go.TL.ck_none_r (And.intro @Go.TL.ck_fread2 (And.intro @Go.TL.ck_fread_rd (And.intro @Go.TL.ck_rd_fread (And.intro @Go.TL.ck_fread_wr (And.intro @Go.TL.ck_wr_fread (And.intro @Go.TL.ck_fread_push (And.intro @Go.TL.ck_push_fread (And.intro @Go.TL.ck_fread_call (And.intro @Go.TL.ck_call_fread (And.intro @Go.TL.ck_fread_feff (And.intro @Go.TL.ck_feff_fread (And.intro @Go.TL.ck_feff2 (And.intro @Go.TL.ck_feff_rd (And.intro @Go.TL.ck_rd_feff (And.intro @Go.TL.ck_feff_wr (And.intro @Go.TL.ck_wr_feff (And.intro @Go.TL.ck_feff_push (And.intro @Go.TL.ck_push_feff (And.intro @Go.TL.ck_feff_call (And.intro @Go.TL.ck_call_feff (And.intro @Go.TL.ck_rd2 (And.intro @Go.TL.ck_rd_push (And.intro @Go.TL.ck_push_rd (@Go.TL.ck_rd_call)))))))))))))))))))))))))))))))))))))))) := And.intro @Go.TL.intBin.eq_9 (And.intro @Go.TL.intBin.eq_10 (And.intro @Go.TL.intBin.eq_11 (And.intro @Go.TL.intBin.eq_12 (And.intro @Go.TL.indexSl_nat (And.intro @Go.TL.evP.eq_1 (And.intro @Go.TL.fillT.eq_1 (And.intro @Go.TL.fillT.eq_2 (And.intro @Go.TL.lenT.eq_1 (And.intro @Go.TL.lenT.eq_2 (And.intro @Go.TL.lenT.eq_3 (And.intro @Go.TL.lenT.eq_4 (And.intro @Go.TL.noClashK.eq_1 (And.intro @Go.TL.noClashK.eq_2 (And.intro @Go.TL.ck_none_l (And.intro @Go.TL.ck_none_r (And.intro @Go.TL.ck_fread2 (And.intro @Go.TL.ck_fread_rd (And.intro @Go.TL.ck_rd_fread (And.intro @Go.TL.ck_fread_wr (And.intro @Go.TL.ck_wr_fread (And.intro @Go.TL.ck_fread_push (And.intro @Go.TL.ck_push_fread (And.intro @Go.TL.ck_fread_call (And.intro @Go.TL.ck_call_fread (And.intro @Go.TL.ck_fread_feff (And.intro @Go.TL.ck_feff_fread (And.intro @Go.TL.ck_feff2 (And.intro @Go.TL.ck_feff_rd (And.intro @Go.TL.ck_rd_feff (And.intro @Go.TL.ck_feff_wr (And.intro @Go.TL.ck_wr_feff (And.intro @Go.TL.ck_feff_push (And.intro @Go.TL.ck_push_feff (And.intro @Go.TL.ck_feff_call (And.intro @Go.TL.ck_call_feff (And.intro @Go.TL.ck_rd2 (And.intro @Go.TL.ck_rd_push (And.intro @Go.TL.ck_push_rd (@Go.TL.ck_rd_call)))))))))))))))))))))))))))))))))))))))
theorem ws7 : type_of% (And.intro @Go.TL.ck_call_rd (And.intro @Go.TL.ck_call2 (And.intro @Go.TL.resF.eq_1 (And.intro @Go.TL.resF.eq_2 (And.intro @Go.TL.resF1.eq_1 (And.intro @Go.TL.resF1.eq_2 (And.intro @Go.TL.initF.eq_1 (And.intro @Go.TL.initF.eq_2 (And.intro @Go.TL.TS.put.eq_1 (And.intro @Go.TL.TS.push.eq_1 (And.intro @cond_true.{1} (And.intro @cond_false.{1} (And.intro @Go.TL.beq_dec (And.intro @Go.TL.ble_dec (And.intro @Go.TL.blt_dec (And.intro @Bool.and_true (And.intro @Bool.true_and (And.intro @Bool.or_true (And.intro @Bool.true_or (And.intro @Bool.not_true (And.intro @Bool.not_false (And.intro @Bool.false_and (And.intro @Bool.and_false (And.intro @Bool.false_or (And.intro @Bool.or_false (And.intro @List.contains_cons.{0} (And.intro @List.contains_nil.{0} (And.intro @List.take_succ_cons.{0} (And.intro @List.drop_succ_cons.{0} (And.intro @List.take_zero.{0} (And.intro @List.drop_zero.{0} (And.intro @List.getElem?_cons_zero.{0} (And.intro @List.getElem?_cons_succ.{0} (And.intro @List.map_cons.{0,0} (And.intro @List.map_nil.{0,0} (And.intro @List.all_cons.{0} (And.intro @List.all_nil.{0} (And.intro @List.length_cons.{0} (And.intro @List.length_nil.{0} (@List.nil_append.{0})))))))))))))))))))))))))))))))))))))))) := And.intro @Go.TL.ck_call_rd (And.intro @Go.TL.ck_call2 (And.intro @Go.TL.resF.eq_1 (And.intro @Go.TL.resF.eq_2 (And.intro @Go.TL.resF1.eq_1 (And.intro @Go.TL.resF1.eq_2 (And.intro @Go.TL.initF.eq_1 (And.intro @Go.TL.initF.eq_2 (And.intro @Go.TL.TS.put.eq_1 (And.intro @Go.TL.TS.push.eq_1 (And.intro @cond_true.{1} (And.intro @cond_false.{1} (And.intro @Go.TL.beq_dec (And.intro @Go.TL.ble_dec (And.intro @Go.TL.blt_dec (And.intro @Bool.and_true (And.intro @Bool.true_and (And.intro @Bool.or_true (And.intro @Bool.true_or (And.intro @Bool.not_true (And.intro @Bool.not_false (And.intro @Bool.false_and (And.intro @Bool.and_false (And.intro @Bool.false_or (And.intro @Bool.or_false (And.intro @List.contains_cons.{0} (And.intro @List.contains_nil.{0} (And.intro @List.take_succ_cons.{0} (And.intro @List.drop_succ_cons.{0} (And.intro @List.take_zero.{0} (And.intro @List.drop_zero.{0} (And.intro @List.getElem?_cons_zero.{0} (And.intro @List.getElem?_cons_succ.{0} (And.intro @List.map_cons.{0,0} (And.intro @List.map_nil.{0,0} (And.intro @List.all_cons.{0} (And.intro @List.all_nil.{0} (And.intro @List.length_cons.{0} (And.intro @List.length_nil.{0} (@List.nil_append.{0})))))))))))))))))))))))))))))))))))))))
theorem ws8 : type_of% (And.intro @List.cons_append.{0} (And.intro @List.reverse_cons.{0} (And.intro @List.reverse_nil.{0} (And.intro @List.append_nil.{0} (And.intro @List.drop_nil.{0} (And.intro @List.take_nil.{0} (And.intro @Option.map_some.{0,0} (And.intro @Option.map_none.{0,0} (And.intro @List.set_cons_zero.{0} (And.intro @List.set_cons_succ.{0} (And.intro @List.getD_cons_zero.{0} (And.intro @List.getD_cons_succ.{0} (And.intro @List.getD_nil.{0} (And.intro @and_true (And.intro @true_and (And.intro @true_implies (And.intro @false_implies (And.intro @not_false_eq_true (And.intro @not_true_eq_false (And.intro @decide_true (And.intro @decide_false (And.intro @List.take_length.{0} (And.intro @Int.natCast_zero (And.intro @Int.cast_ofNat_Int (And.intro @List.getElem?_nil.{0} (And.intro @Nat.add_zero (@Nat.zero_add))))))))))))))))))))))))))) := And.intro @List.cons_append.{0} (And.intro @List.reverse_cons.{0} (And.intro @List.reverse_nil.{0} (And.intro @List.append_nil.{0} (And.intro @List.drop_nil.{0} (And.intro @List.take_nil.{0} (And.intro @Option.map_some.{0,0} (And.intro @Option.map_none.{0,0} (And.intro @List.set_cons_zero.{0} (And.intro @List.set_cons_succ.{0} (And.intro @List.getD_cons_zero.{0} (And.intro @List.getD_cons_succ.{0} (And.intro @List.getD_nil.{0} (And.intro @and_true (And.intro @true_and (And.intro @true_implies (And.intro @false_implies (And.intro @not_false_eq_true (And.intro @not_true_eq_false (And.intro @decide_true (And.intro @decide_false (And.intro @List.take_length.{0} (And.intro @Int.natCast_zero (And.intro @Int.cast_ofNat_Int (And.intro @List.getElem?_nil.{0} (And.intro @Nat.add_zero (@Nat.zero_add))))))))))))))))))))))))))
end Go.TL
/- A call that hands back a slice of its own: known by its elements. -/
namespace Go.TL

theorem appendX_copyE {S : TS} {sz bytes : Nat} {a : Addr} {c : Nat} : appendX S sz bytes (.r (.lst [] (some 0))) (.r (.sc (.slice (some a) 0 c))) = some ⟨.r (.lst [] (some 0)), .rd []⟩ := by
  have : Nat.ble 0 roomT = true := rfl
  simp [appendX, rdSlice, lenT, allLen, TV.sls, sl1, this]

/- append. -/
section
variable {S : TS} {sz bytes : Nat} {x : List RV} {xs es : List (List RV)} {c c' : Option Nat}
theorem appX_nil (h1 : (xs.length + 1) * bytes ≤ roomT) (h2 : xs.length + 1 ≤ roomT) (h3 : allLen sz (x :: xs) = true) (h4 : (x :: xs).all (fun e => e.all okR) = true) :
    appendX S sz bytes (.r (.sc (.slice none 0 0))) (.r (.lst (x :: xs) c)) = some ⟨.sl S.objs.length 0 (xs.length + 1) 0 none, .push S.objs.length [] (.arr sz (x :: xs) 0 0)⟩ := by
  have e1 : Nat.ble ((xs.length + 1) * bytes) roomT = true := by simpa using h1
  have e2 : Nat.ble (xs.length + 1) roomT = true := by simpa using h2
  simp only [appendX, rdSlice, lenT, List.length_cons, Nat.zero_add, h3, h4, e1, e2, Bool.and_true, cond_true, newArr, TV.sls, sl1]
theorem appX_lit {k : Nat} (h1 : (es.length + (xs.length + 1)) * bytes ≤ roomT) (h2 : es.length + (xs.length + 1) ≤ roomT) (h3 : allLen sz (x :: xs) = true) (h4 : (x :: xs).all (fun e => e.all okR) = true) (h5 : allLen sz es = true) (hk : k < es.length + (xs.length + 1)) :
    appendX S sz bytes (.r (.lst es (some k))) (.r (.lst (x :: xs) c)) = some ⟨.sl S.objs.length 0 (es.length + (xs.length + 1)) 0 none, .push S.objs.length [] (.arr sz (es ++ x :: xs) 0 0)⟩ := by
  have e1 : Nat.ble ((es.length + (xs.length + 1)) * bytes) roomT = true := by simpa using h1
  have e2 : Nat.ble (es.length + (xs.length + 1)) roomT = true := by simpa using h2
  have e3 : Nat.blt k (es.length + (xs.length + 1)) = true := by rw [blt_dec]; simpa using hk
  simp only [appendX, rdSlice, lenT, List.length_cons, h3, h4, h5, e1, e2, e3, Bool.and_true, Bool.true_and, cond_true, newArr, TV.sls, sl1]
theorem appX_sl {o n k : Nat} (ho : S.objs[o]? = some (.arr sz es k 0)) (hn : es.length = n) (h1 : (n + (xs.length + 1)) * bytes ≤ roomT) (h2 : n + (xs.length + 1) ≤ roomT) (h3 : allLen sz (x :: xs) = true) (h4 : (x :: xs).all (fun e => e.all okR) = true) :
    appendX S sz bytes (.sl o 0 n k none) (.r (.lst (x :: xs) c)) = some ⟨.sl o 0 (n + (xs.length + 1)) (k + 1) none, .wr [] [o] (S.put o (.arr sz (es ++ x :: xs) (k + 1) 0))⟩ := by
  subst hn
  have e1 : Nat.ble ((es.length + (xs.length + 1)) * bytes) roomT = true := by simpa using h1
  have e2 : Nat.ble (es.length + (xs.length + 1)) roomT = true := by simpa using h2
  have e3 : Nat.ble es.length es.length = true := by simp
  simp only [appendX, rdSlice, lenT, List.length_cons, h3, h4, e1, e2, e3, ho, Nat.zero_add, Nat.beq_refl, Bool.and_true, Bool.true_and, cond_true, TV.sls, sl1, List.drop_zero, Nat.sub_zero, Nat.zero_sub]
theorem appX_none_sl {o n k : Nat} (h1 : n * bytes ≤ roomT) (h2 : n ≤ roomT) : appendX S sz bytes (.sl o 0 n k none) (.r (.lst [] c)) = some ⟨.sl o 0 n k none, .rd []⟩ := by
  have e1 : Nat.ble (n * bytes) roomT = true := by simpa using h1
  have e2 : Nat.ble n roomT = true := by simpa using h2
  simp only [appendX, rdSlice, lenT, List.length_nil, Nat.add_zero, e1, e2, allLen, List.all_nil, Bool.and_true, cond_true, TV.sls, sl1]
theorem appX_none_lit (h1 : es.length * bytes ≤ roomT) (h2 : es.length ≤ roomT) : appendX S sz bytes (.r (.lst es c')) (.r (.lst [] c)) = some ⟨.r (.lst es c'), .rd []⟩ := by
  have e1 : Nat.ble (es.length * bytes) roomT = true := by simpa using h1
  have e2 : Nat.ble es.length roomT = true := by simpa using h2
  simp only [appendX, rdSlice, lenT, List.length_nil, Nat.add_zero, e1, e2, allLen, List.all_nil, Bool.and_true, cond_true, TV.sls, sl1]
end

section
variable {P : Program} {cfg : Cfg}

theorem FR.rep {w : World} {g : G} {os : List TO} {v : Value} {x : TV} (h : FR w g.I v x) : TRep w g os v x := by
  have hp : PRep w g os v x := FR.toP h
  cases x <;> first | exact hp | exact h.elim

theorem lift_call2 {callF : CallF} (hcs : CallSound P callF) {f : Nat} {args : List TV} {v x : TV} {S' S'' : TS} {low : Option Nat} (h : callF f args ⟨[], false, none⟩ = some (v, S', low)) (hz : freezeV S' v = some (x, S''))
    (harg : args.all flatT = true) : Known.Good P ⟨f, args, x⟩ := by
  obtain ⟨hfn, hs⟩ := hcs _ _ _ _ _ _ h
  refine ⟨hfn, fun S w g vals hsr hv => ?_⟩
  have hs0 : SRep w g [] := ⟨fun o x h => by simp at h, fun o o' h => by simp at h, hsr.imm⟩
  refine (hs w g vals hs0 (flatArgs_rep hv harg)).mono fun e w' hq => ?_
  obtain ⟨v', g0, rfl, x0, s0, hr0⟩ := hq
  obtain ⟨g', x1, s, hr⟩ := freezeV_rep s0 hr0 hz
  have x := x0.trans x1
  have hheap : ∀ b, b < w.heap.size → w'.heap[b]? = w.heap[b]? := fun b hb => x.frame b hb fun o ho => by simp at ho
  let g2 : G := { g with I := g'.I }
  have hI : ∀ b i, g.I b i → g2.I b i ∧ ca w' b i = ca w b i := x.imm
  have hO : ∀ (o : Nat) (y : TO), S.objs[o]? = some y → ∃ y', S.objs[o]? = some y' ∧ OExt g g2 o y y' := fun o y hy => ⟨y, hy, by cases y <;> simp [OExt, g2]⟩
  refine ⟨v', g2, rfl, ⟨x.rest, x.size, hI, fun b i hi => ?_, Nat.le_refl _, fun _ _ => .inl rfl, fun o h1 h2 => by omega, hO, fun b hb _ => hheap b hb, x.frz⟩, ⟨fun o y hy => ?_, hsr.inj, s.imm⟩, ?_⟩
  · rcases x.inew b i hi with h | h | ⟨o, ho, _⟩
    · exact .inl h
    · exact .inr (.inl h)
    · simp at ho
  · have h0 := hsr.obj o y hy
    refine h0.mono hI hO (hheap _ h0.lt) rfl rfl rfl fun i hi => ?_
    rcases x.inew _ i hi with h | h | ⟨o, ho, _⟩
    · exact h
    · have := h0.lt; omega
    · simp at ho
  · exact FR.rep (g := g2) hr

theorem good_of2 {fams : List Fam} (hs : ∀ {orc : CallF}, CallSound P orc → ∀ n, CallSound P (callT P cfg orc n)) (hf : ∀ x, x ∈ fams → x.Good P) {f : Nat} {args : List TV} {v x : TV} {S' S'' : TS} {low : Option Nat}
    (h : callL P cfg (famT fams) f args ⟨[], false, none⟩ = some (v, S', low)) (hz : freezeV S' v = some (x, S'')) (h1 : args.all flatT = true) : Known.Good P ⟨f, args, x⟩ :=
  lift_call2 (callL_sound fun n => hs (famT_sound hf) n) h hz h1

/-- A slice without elements is nil or not. -/
theorem good_empty {f : Nat} {x1 x : TV} (hx : ∀ w g os v, TRep w g os v x1 → TRep w g os v x) (h1 : Known.Good P ⟨f, [.r (.sc (.slice none 0 0))], x1⟩) (h2 : ∀ (a : Addr) (c : Nat), Known.Good P ⟨f, [.r (.sc (.slice (some a) 0 c))], x⟩) :
    Known.Good P ⟨f, [.r (.lst [] none)], x⟩ := by
  refine ⟨h1.1, fun S w g vals hs ha => ?_⟩
  cases ha with
  | cons hv hr =>
    cases hr
    have hv : RRep w g.I _ (.lst [] none) := hv rfl
    have hsome : ∀ (a : Addr) (c : Nat), Calls P f #[.slice (some a) 0 c] w (RetPost S w g x S) := fun a c => (h2 a c).2 S w g [.slice (some a) 0 c] hs (.cons (fun _ => .sc _) .nil)
    cases hv with
    | nil c h =>
      refine (h1.2 S w g [.slice none 0 0] hs (.cons (fun _ => .sc _) .nil)).mono fun e w' hq => ?_
      obtain ⟨v', g', e1, e2, e3, e4⟩ := hq
      exact ⟨v', g', e1, e2, e3, hx _ _ _ _ e4⟩
    | emp a cap c h => exact hsome a cap
    | lst b off cap sz es c cv q2 q3 q4 q5 q6 => exact hsome _ _
end
end Go.TL
/- Comparisons of structs, and of slices with nil. -/
namespace Go.TL

theorem pureRun_bind {P : Program} {α β : Type} (m : Sem α) (k : α → Sem β) : pureRun P (m >>= k) = (pureRun P m).bind fun a => pureRun P (k a) := by
  show pureRun P (m.bind k) = _
  induction m with
  | pure a => rfl
  | program f ih => exact ih P
  | mark _ f ih => exact ih
  | _ => rfl

theorem pureRun_pure {P : Program} {α : Type} (a : α) : pureRun P (pure a : Sem α) = some a := rfl

def clV (P : Program) (b : BinOp) (t : TypeId) (x y : Operand) (vx vy : TV) : Option Out :=
  cond ((toV vx).isSome && ((toV vy).isSome && true))
    (match pureRun P (do let r ← (do eqGuard b t x y ((toV vx).getD undef) ((toV vy).getD undef); Go.binOp b t ((toV vx).getD undef) ((toV vy).getD undef)); pure (Next.value r)) with
    | some (.value v) => oval (inj v)
    | _ => .none) .none
theorem closed_clV {P : Program} {f : Fr} {b : BinOp} {t yt : TypeId} {x y : Operand} : closedT P (opF f) (bare (.binOp b t x y yt) 0) = clV P b t x y (opF f x) (opF f y) := (rfl)

/-- Fields, one after the other. -/
def eqFP (P : Program) (d : Nat) (xs ys : Array Value) : List Field → Option Bool
  | [] => some true
  | f :: fs =>
    if f.name ≠ "_" then
      (pureRun P (part f.type xs f.offset)).bind fun a => (pureRun P (part f.type ys f.offset)).bind fun b => (pureRun P (Op.equalIn d f.type a b)).bind fun r => if r = true then eqFP P d xs ys fs else some false
    else eqFP P d xs ys fs

theorem pure_equalIn_struct {P : Program} (d : Nat) (t : TypeId) (xs ys : Array Value) (fs : Array Field) (ht : pureRun P (underlying t) = some (.struct fs)) (hp : P.stoodInHeld t = false) :
    pureRun P (Op.equalIn (d + 1) t (.agg xs) (.agg ys)) = eqFP P d xs ys fs.toList := by
  have hprog : pureRun P (program : Sem Program) = some P := rfl
  simp only [Op.equalIn, pureRun_bind, ht, Option.bind_some, hprog, hp, Bool.false_eq_true, if_false, pureRun_pure]
  rw [← Array.forIn_toList]
  generalize fs.toList = l
  clear ht
  induction l with
  | nil => simp [eqFP, pureRun_pure]
  | cons f l ih =>
    simp only [List.forIn_cons, eqFP, pureRun_bind]
    split
    · simp only [pureRun_bind]
      rcases h1 : pureRun P (part f.type xs f.offset) with _ | a
      · rfl
      · simp only [Option.bind_some]
        rcases h2 : pureRun P (part f.type ys f.offset) with _ | b
        · rfl
        · simp only [Option.bind_some]
          rcases h3 : pureRun P (Op.equalIn d f.type a b) with _ | r
          · rfl
          · simp only [Option.bind_some]
            cases r
            · rfl
            · simp only [Bool.not_true, Bool.false_eq_true, if_false, pureRun_pure, Option.bind_some, if_true]
              exact ih
    · simp only [pureRun_pure, Option.bind_some]
      exact ih

theorem pure_underlying {P : Program} {t : TypeId} {d : TypeDesc} (h : P.underlying t = some d) : pureRun P (underlying t) = some d := by
  simp only [underlying, pureRun_bind]
  show (some P).bind _ = _
  simp only [Option.bind_some, h]
  rfl

theorem pure_equalIn_int {P : Program} (d : Nat) (t : TypeId) {k k' : IntKind} (a b : Int) (h : P.underlying t = some (.int k')) : pureRun P (Op.equalIn (d + 1) t (.int k a) (.int k b)) = some (a == b) := by
  simp only [Op.equalIn, pureRun_bind, pure_underlying h, Option.bind_some, if_true]
  rfl

/-- Two structs, compared. -/
theorem clV_struct {P : Program} {t : TypeId} {fs : Array Field} {x y : Operand} {vx vy : TV} {cs ds : Array Value} {r : Bool} (hx : toV vx = some (.agg cs)) (hy : toV vy = some (.agg ds)) (hu : P.underlying t = some (.struct fs)) (hp : P.stoodInHeld t = false)
    (hg : P.eqGuardType P.depth t = false) (h : eqFP P 9999 cs ds fs.toList = some r) : clV P .eql t x y vx vy = oval (B r) ∧ clV P .neq t x y vx vy = oval (B !r) := by
  have hprog : pureRun P (program : Sem Program) = some P := rfl
  have he : pureRun P (Op.equal t (.agg cs) (.agg ds)) = some r := by
    show pureRun P (Op.equalIn (9999 + 1) t _ _) = _
    rw [pure_equalIn_struct 9999 t cs ds fs (pure_underlying hu) hp, h]
  have hgd : ∀ b, pureRun P (eqGuard b t x y (.agg cs) (.agg ds)) = some () := by
    intro b
    unfold eqGuard
    cases b <;> first
      | rfl
      | (simp only [Bool.not_true, Bool.false_eq_true, if_false, pureRun_bind, hprog, Option.bind_some, hg, Bool.not_false, if_true]
         rfl)
  constructor
  · unfold clV
    simp only [hx, hy, Option.isSome_some, Bool.and_self, cond_true, Option.getD_some, pureRun_bind, hgd, Option.bind_some, Go.binOp, he]
    rfl
  · unfold clV
    simp only [hx, hy, Option.isSome_some, Bool.and_self, cond_true, Option.getD_some, pureRun_bind, hgd, Option.bind_some, Go.binOp, he]
    rfl
end Go.TL
