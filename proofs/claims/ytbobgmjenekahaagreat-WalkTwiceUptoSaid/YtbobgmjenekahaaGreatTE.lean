/- What is known of calls that need nothing shared. -/
import Derived.Test.YtbobgmjenekahaaGreatTD
set_option linter.unusedVariables false
set_option linter.unusedSimpArgs false
namespace Go.TL

section
variable {P : Program}

/-- A call that has been carried out with nothing shared may be carried out beside anything shared. -/
theorem lift_call {callF : CallF} (hcs : CallSound P callF) {f : Nat} {args : List TV} {v : TV} {low : Option Nat} (h : callF f args ⟨[], false, .none⟩ = some (v, ⟨[], false, .none⟩, low))
    (harg : ∀ w g os vals, F2 (ARep w g os) vals args → F2 (ARep w g []) vals args) (hres : ∀ w g os v', TRep w g [] v' v → TRep w g os v' v) :
    (∃ fn, P.funcs[f]? = some fn ∧ fn.body.isSome = true) ∧ ∀ (S : TS) w g vals, SRep w g S.objs → F2 (ARep w g S.objs) vals args → Calls P f vals.toArray w (RetPost S w g v S) := by
  obtain ⟨hfn, hs⟩ := hcs _ _ _ _ _ _ h
  refine ⟨hfn, fun S w g vals hsr hv => ?_⟩
  have hs0 : SRep w g [] := ⟨fun o x h => by simp at h, fun o o' h => by simp at h, hsr.imm⟩
  refine (hs w g vals hs0 (harg _ _ _ _ hv)).mono fun e w' hq => ?_
  obtain ⟨v', g', rfl, x, s, hr⟩ := hq
  have hheap : ∀ b, b < w.heap.size → w'.heap[b]? = w.heap[b]? := fun b hb => x.frame b hb fun o ho => by simp at ho
  let g2 : G := { g with I := g'.I }
  have hI : ∀ b i, g.I b i → g2.I b i ∧ ca w' b i = ca w b i := x.imm
  have hO : ∀ (o : Nat) (y : TO), S.objs[o]? = some y → ∃ y', S.objs[o]? = some y' ∧ OExt g g2 o y y' := fun o y hy => ⟨y, hy, by cases y <;> simp [OExt, g2]⟩
  refine ⟨v', g2, rfl, ⟨x.rest, x.size, hI, fun b i hi => ?_, Nat.le_refl _, fun _ _ => .inl rfl, fun o h1 h2 => by omega, hO, fun b hb _ => hheap b hb, x.frz⟩, ⟨fun o y hy => ?_, hsr.inj, s.imm⟩, ?_⟩
  · rcases x.inew b i hi with h | h | ⟨o, ho, _⟩
    · exact .inl h
    · exact .inr (.inl h)
    · simp at ho
  · have h0 := hsr.obj o y hy
    refine h0.mono hI hO (hheap _ h0.lt) rfl rfl rfl fun i hi => ?_
    rcases x.inew _ i hi with h | h | ⟨o, ho, _⟩
    · exact h
    · have := h0.lt; omega
    · simp at ho
  · refine hres _ _ _ _ ?_
    have hI2 : ∀ b i, g'.I b i → g2.I b i ∧ ca w' b i = ca w' b i := fun b i hi => ⟨hi, rfl⟩
    exact TRep.mono (os := []) (os' := []) hI2 (fun o y hy => by simp at hy) hr
end
end Go.TL
/- A table of calls that have been carried out. -/
namespace Go.TL

def flat1 : TV → Bool
  | .r _ => true
  | _ => false
def flatP : TV → Bool
  | .r _ => true
  | .agg cs => cs.all flat1
  | _ => false
def flatT : TV → Bool
  | .tup ts => ts.all flatP
  | t => flatP t

theorem flat1_rep {w : World} {g : G} {os os' : List TO} {v : Value} {t : TV} (hf : flat1 t = true) (h : CRep w g os v t) : CRep w g os' v t := by
  cases t <;> simp [flat1] at hf
  exact h

theorem flats_rep {w : World} {g : G} {os os' : List TO} {vs : List Value} {ts : List TV} (h : F2 (CRep w g os) vs ts) (hf : ts.all flat1 = true) : F2 (CRep w g os') vs ts := by
  induction h with
  | nil => exact .nil
  | cons h _ ih =>
    simp only [List.all_cons, Bool.and_eq_true] at hf
    exact .cons (flat1_rep hf.1 h) (ih hf.2)

theorem flatP_rep {w : World} {g : G} {os os' : List TO} {v : Value} {t : TV} (hf : flatP t = true) (h : PRep w g os v t) : PRep w g os' v t := by
  cases t <;> simp [flatP] at hf
  · exact h
  · obtain ⟨vs, h1, h2⟩ := h
    exact ⟨vs, h1, flats_rep h2 (by simpa using hf)⟩

theorem flatPs_rep {w : World} {g : G} {os os' : List TO} {vs : List Value} {ts : List TV} (h : F2 (PRep w g os) vs ts) (hf : ts.all flatP = true) : F2 (PRep w g os') vs ts := by
  induction h with
  | nil => exact .nil
  | cons h _ ih =>
    simp only [List.all_cons, Bool.and_eq_true] at hf
    exact .cons (flatP_rep hf.1 h) (ih hf.2)

theorem flatT_rep {w : World} {g : G} {os os' : List TO} {v : Value} {t : TV} (hf : flatT t = true) (h : TRep w g os v t) : TRep w g os' v t := by
  cases t with
  | tup ts =>
    obtain ⟨vs, h1, h2⟩ := h
    exact ⟨vs, h1, flatPs_rep h2 hf⟩
  | r x => exact h
  | agg cs =>
    obtain ⟨vs, h1, h2⟩ := h
    exact ⟨vs, h1, flats_rep h2 hf⟩
  | _ => simp [flatT, flatP] at hf

theorem flatArgs_rep {w : World} {g : G} {os os' : List TO} {vs : List Value} {ts : List TV} (h : F2 (ARep w g os) vs ts) (hf : ts.all flatT = true) : F2 (ARep w g os') vs ts := by
  induction h with
  | nil => exact .nil
  | cons h _ ih =>
    simp only [List.all_cons, Bool.and_eq_true] at hf
    exact .cons (fun hn => flatT_rep hf.1 (h hn)) (ih hf.2)
end Go.TL
/- The table of known calls, and that it is right. -/
namespace Go.TL

end Go.TL
/- Known calls, looked up. -/
namespace Go.TL

def eqC : List TV → List TV → Bool
  | [], [] => true
  | .r x :: xs, .r y :: ys => eqRV x y && eqC xs ys
  | _, _ => false
def eqT : TV → TV → Bool
  | .r x, .r y => eqRV x y
  | .agg xs, .agg ys => eqC xs ys
  | _, _ => false
def eqTs : List TV → List TV → Bool
  | [], [] => true
  | x :: xs, y :: ys => eqT x y && eqTs xs ys
  | _, _ => false

theorem eqC_eq : ∀ {a b : List TV}, eqC a b = true → a = b
  | [], [], _ => rfl
  | x :: xs, y :: ys, h => by
    cases x <;> cases y <;> simp only [eqC, Bool.and_eq_true, Bool.false_eq_true] at h
    rw [eqRV_eq h.1, eqC_eq h.2]
  | [], _ :: _, h => by simp [eqC] at h
  | x :: _, [], h => by cases x <;> simp [eqC] at h

theorem eqT_eq {a b : TV} (h : eqT a b = true) : a = b := by
  cases a <;> cases b <;> simp only [eqT, Bool.false_eq_true] at h
  · rw [eqRV_eq h]
  · rw [eqC_eq h]

theorem eqTs_eq : ∀ {a b : List TV}, eqTs a b = true → a = b
  | [], [], _ => rfl
  | x :: xs, y :: ys, h => by
    simp only [eqTs, Bool.and_eq_true] at h
    rw [eqT_eq h.1, eqTs_eq h.2]
  | [], _ :: _, h => by simp [eqTs] at h
  | _ :: _, [], h => by simp [eqTs] at h

structure Known where
  f : Nat
  args : List TV
  val : TV

def lookK (f : Nat) (args : List TV) : List Known → Option TV
  | [] => none
  | k :: ks => cond (Nat.beq k.f f && eqTs k.args args) (some k.val) (lookK f args ks)
/-- What is known, as a way to call. -/
def knownT (ks : List Known) : CallF := fun f args S => match lookK f args ks with | some v => some (v, S, .none) | none => .none

/-- A known call is right. -/
def Known.Good (P : Program) (k : Known) : Prop :=
  (∃ fn, P.funcs[k.f]? = some fn ∧ fn.body.isSome = true) ∧ ∀ (S : TS) w g vals, SRep w g S.objs → F2 (ARep w g S.objs) vals k.args → Calls P k.f vals.toArray w (RetPost S w g k.val S)

theorem known_sound {P : Program} {ks : List Known} (h : ∀ k, k ∈ ks → k.Good P) : CallSound P (knownT ks) := by
  intro f args S v S' low hc
  unfold knownT at hc
  split at hc
  · rename_i u hu
    simp only [Option.some.injEq, Prod.mk.injEq] at hc
    obtain ⟨rfl, rfl, _⟩ := hc
    have : ∃ k, k ∈ ks ∧ k.f = f ∧ k.args = args ∧ k.val = u := by
      clear h
      induction ks with
      | nil => simp [lookK] at hu
      | cons k ks ih =>
        simp only [lookK] at hu
        cases hb : (Nat.beq k.f f && eqTs k.args args) <;> rw [hb] at hu
        · obtain ⟨k', h1, h2⟩ := ih hu
          exact ⟨k', List.mem_cons_of_mem _ h1, h2⟩
        · simp only [cond_true, Option.some.injEq] at hu
          simp only [Bool.and_eq_true] at hb
          exact ⟨k, List.mem_cons_self .., Nat.eq_of_beq_eq_true hb.1, eqTs_eq hb.2, hu⟩
    obtain ⟨k, hk, rfl, rfl, rfl⟩ := this
    exact ⟨(h k hk).1, fun w g vals hs ha => (h k hk).2 S w g vals hs ha⟩
  · cases hc

/-- A call that has been carried out is known. -/
theorem known_of {P : Program} {callF : CallF} (hcs : CallSound P callF) {k : Known} {low : Option Nat} (h : callF k.f k.args ⟨[], false, .none⟩ = some (k.val, ⟨[], false, .none⟩, low)) (h1 : k.args.all flatT = true) (h2 : flatT k.val = true) : k.Good P :=
  lift_call hcs h (fun _ _ _ _ ha => flatArgs_rep ha h1) (fun _ _ _ _ hr => flatT_rep h2 hr)
end Go.TL
/- Calls at any depth: what is carried out with little fuel is carried out with more. -/
namespace Go.TL

def CLe (c1 c2 : CallF) : Prop := ∀ f a S r, c1 f a S = some r → c2 f a S = some r

theorem CLe.refl (c : CallF) : CLe c c := fun _ _ _ _ h => h
theorem CLe.trans {a b c : CallF} (h1 : CLe a b) (h2 : CLe b c) : CLe a c := fun _ _ _ _ h => h2 _ _ _ _ (h1 _ _ _ _ h)

section
variable {P : Program} {loc : List Nat} {c1 c2 : CallF} {base : Nat} {ops : Array Oper}

theorem opT_mono (h : CLe c1 c2) {fr : Tr} {S : TS} {o : Oper} {r : Out} (hr : opT P loc c1 base fr S o = some r) : opT P loc c2 base fr S o = some r := by
  unfold opT at hr ⊢
  split at hr
  all_goals first
    | exact hr
    | skip
  rename_i c hc
  split at hr
  · exact hr
  · rename_i g hg
    split at hr
    · rename_i f cs hf
      split at hr
      · rename_i v S' w hcall
        simp only [h _ _ _ _ hcall]
        exact hr
      · cases hr
    · cases hr
  · cases hr

theorem stepC_mono (h : CLe c1 c2) {fr : Tr} {S : TS} {o : Oper} {r : Tr × TS × Eff} (hr : stepC P loc c1 base ops fr S o = some r) : stepC P loc c2 base ops fr S o = some r := by
  unfold stepC at hr ⊢
  cases h1 : wantOk o ops fr
  · rw [h1] at hr; exact hr
  · cases h2 : wantT o ops fr
    · rw [h1, h2] at hr; exact hr
    · rw [h1, h2] at hr
      simp only [cond_true] at hr ⊢
      split at hr
      · rename_i x hx
        rw [opT_mono h hx]
        exact hr
      · cases hr

theorem runOps_mono (h : CLe c1 c2) : ∀ {os : List Oper} {fr : Tr} {S : TS} {r : Tr × TS}, runOps P loc c1 base ops os fr S = some r → runOps P loc c2 base ops os fr S = some r
  | [], _, _, _, hr => hr
  | o :: os, fr, S, r, hr => by
    simp only [runOps] at hr ⊢
    split at hr
    · rename_i fr1 S1 e hs
      rw [stepC_mono h hs]
      exact runOps_mono h hr
    · cases hr

theorem runCls_mono (h : CLe c1 c2) : ∀ {os : List Oper} {fr : Tr} {S : TS} {r : Tr × TS × List Eff}, runCls P loc c1 base ops os fr S = some r → runCls P loc c2 base ops os fr S = some r
  | [], _, _, _, hr => hr
  | o :: os, fr, S, r, hr => by
    simp only [runCls] at hr ⊢
    split at hr
    · rename_i fr1 S1 e hs
      rw [stepC_mono h hs]
      split at hr
      · rename_i fr2 S2 cs hr2
        simp only [runCls_mono h hr2]
        exact hr
      · cases hr
    · cases hr

theorem regionT_mono (h : CLe c1 c2) {risk : List (Nat × Nat)} {fr : Tr} {S : TS} {r : Tr × TS} (hr : regionT P loc c1 base ops risk fr S = some r) : regionT P loc c2 base ops risk fr S = some r := by
  unfold regionT at hr ⊢
  cases risk with
  | nil =>
    simp only at hr ⊢
    split at hr
    · rename_i fr1 S1 h1
      rw [runOps_mono h h1]
      exact hr
    · cases hr
  | cons a l =>
    simp only at hr ⊢
    split at hr
    · rename_i fr1 S1 cs h1
      rw [runCls_mono h h1]
      exact hr
    · cases hr

theorem orcT_mono {orc : CallF} (h : CLe c1 c2) : CLe (orcT orc c1) (orcT orc c2) := by
  intro f a S r hr
  unfold orcT at hr ⊢
  split at hr
  · exact hr
  · exact h _ _ _ _ hr

theorem enterT_mono {cfg : Cfg} {e1 e2 : Code → FnI → Nat → Tr → TS → Option (TX × Tr × TS)} (h : ∀ c fi b fr S r, e1 c fi b fr S = some r → e2 c fi b fr S = some r) : CLe (enterT P cfg e1) (enterT P cfg e2) := by
  intro f a S r hr
  unfold enterT at hr ⊢
  split at hr
  · cases hr
  · rename_i fn hfn
    split at hr
    · rename_i body as S1 hb ha
      cases hle : Nat.ble as.length fn.ntmps
      · rw [hle] at hr; cases hr
      · rw [hle] at hr
        simp only [cond_true] at hr ⊢
        split at hr
        · cases hr
        · rename_i tx fr2 S2 hnx he
          rw [h _ _ _ _ _ _ he]
          cases tx with
          | exit i => exact (hnx _ rfl).elim
          | normal => exact hr
          | ret => exact hr
        · cases hr
    · cases hr

theorem exec_mono {cfg : Cfg} {orc : CallF} : ∀ {n m : Nat} {c : Code} {fi : FnI} {b : Nat} {fr : Tr} {S : TS} {r : TX × Tr × TS}, n ≤ m → exec P cfg orc n c fi b fr S = some r → exec P cfg orc m c fi b fr S = some r
  | 0, _, _, _, _, _, _, _, _, h => by cases h
  | n + 1, 0, _, _, _, _, _, _, hm, _ => by omega
  | n + 1, m + 1, c, fi, b, fr, S, r, hm, h => by
    have ih : ∀ c fi b fr S r, exec P cfg orc n c fi b fr S = some r → exec P cfg orc m c fi b fr S = some r := fun c fi b fr S r h => exec_mono (by omega) h
    have hreg : CLe (orcT orc (enterT P cfg (exec P cfg orc n))) (orcT orc (enterT P cfg (exec P cfg orc m))) := orcT_mono (enterT_mono ih)
    cases c with
    | region id ops draw =>
      simp only [exec] at h ⊢
      split at h
      · rename_i fr1 S1 h1
        rw [regionT_mono hreg h1]
        exact h
      · cases h
    | seq a b =>
      simp only [exec] at h ⊢
      split at h
      · rename_i fr1 S1 h1
        rw [ih _ _ _ _ _ _ h1]
        exact ih _ _ _ _ _ _ h
      · rename_i hn
        rw [ih _ _ _ _ _ _ h]
        split
        · rename_i fr1 S1 h2
          simp only [Option.some.injEq] at h2
          subst h2
          exact (hn _ _ h).elim
        · rfl
    | cond x a b =>
      simp only [exec] at h ⊢
      split at h
      · exact ih _ _ _ _ _ _ h
      · exact ih _ _ _ _ _ _ h
      · cases h
    | block id c =>
      simp only [exec] at h ⊢
      split at h
      · rename_i i fr1 S1 h1
        rw [ih _ _ _ _ _ _ h1]
        exact h
      · rename_i hn
        rw [ih _ _ _ _ _ _ h]
        split
        · rename_i i fr1 S1 h2
          simp only [Option.some.injEq] at h2
          subst h2
          exact (hn _ _ _ h).elim
        · rfl
    | loop c =>
      simp only [exec] at h ⊢
      split at h
      · rename_i fr1 S1 h1
        rw [ih _ _ _ _ _ _ h1]
        exact ih _ _ _ _ _ _ h
      · rename_i hn
        rw [ih _ _ _ _ _ _ h]
        split
        · rename_i fr1 S1 h2
          simp only [Option.some.injEq] at h2
          subst h2
          exact (hn _ _ h).elim
        · rfl
    | _ => exact h

theorem callT_mono {cfg : Cfg} {orc : CallF} {n m : Nat} (h : n ≤ m) : CLe (callT P cfg orc n) (callT P cfg orc m) := enterT_mono fun _ _ _ _ _ _ he => exec_mono h he
end

section
variable (P : Program) (cfg : Cfg) (orc : CallF)
open Classical in
/-- A call, however much fuel it asks. -/
noncomputable def callL : CallF := fun f args S => if h : ∃ n, (callT P cfg orc n f args S).isSome = true then callT P cfg orc (Classical.choose h) f args S else none
/-- With what is known of calls. -/
noncomputable def callX : CallF := orcT orc (callL P cfg orc)
end

section
variable {P : Program} {cfg : Cfg} {orc : CallF}

theorem callL_of {n : Nat} {f : Nat} {args : List TV} {S : TS} {r : TV × TS × Option Nat} (h : callT P cfg orc n f args S = some r) : callL P cfg orc f args S = some r := by
  have hex : ∃ n, (callT P cfg orc n f args S).isSome = true := ⟨n, by rw [h]; rfl⟩
  unfold callL
  rw [dif_pos hex]
  have h2 := Classical.choose_spec hex
  obtain ⟨r2, hr2⟩ := Option.isSome_iff_exists.1 h2
  rw [hr2]
  have a := callT_mono (Nat.le_max_left n (Classical.choose hex)) _ _ _ _ h
  have b := callT_mono (Nat.le_max_right n (Classical.choose hex)) _ _ _ _ hr2
  rw [a] at b
  exact b.symm

theorem callL_fuel {f : Nat} {args : List TV} {S : TS} {r : TV × TS × Option Nat} (h : callL P cfg orc f args S = some r) : ∃ n, callT P cfg orc n f args S = some r := by
  unfold callL at h
  split at h
  · rename_i hex
    exact ⟨_, h⟩
  · cases h

theorem callL_sound (hs : ∀ n, CallSound P (callT P cfg orc n)) : CallSound P (callL P cfg orc) := by
  intro f args S v S' low h
  obtain ⟨n, hn⟩ := callL_fuel h
  exact hs n _ _ _ _ _ _ hn

def fuelC (P : Program) (cfg : Cfg) (orc : CallF) (n : Nat) : CallF := orcT orc (callT P cfg orc n)

theorem fuelC_mono {n m : Nat} (h : n ≤ m) : CLe (fuelC P cfg orc n) (fuelC P cfg orc m) := orcT_mono (callT_mono h)

theorem callX_fuel {f : Nat} {args : List TV} {S : TS} {r : TV × TS × Option Nat} (h : callX P cfg orc f args S = some r) : ∃ n, fuelC P cfg orc n f args S = some r := by
  unfold callX orcT at h
  cases ho : orc f args S with
  | some x => rw [ho] at h; exact ⟨0, by unfold fuelC orcT; rw [ho]; exact h⟩
  | none =>
    rw [ho] at h
    obtain ⟨n, hn⟩ := callL_fuel h
    exact ⟨n, by unfold fuelC orcT; rw [ho]; exact hn⟩

variable {loc : List Nat} {base : Nat} {ops : Array Oper}

theorem opT_fuel {fr : Tr} {S : TS} {o : Oper} {r : Out} (hr : opT P loc (callX P cfg orc) base fr S o = some r) : ∃ n, opT P loc (fuelC P cfg orc n) base fr S o = some r := by
  unfold opT at hr
  unfold opT
  split at hr
  all_goals first
    | exact ⟨0, hr⟩
    | skip
  rename_i c hc
  split at hr
  · exact ⟨0, hr⟩
  · rename_i g hg
    split at hr
    · rename_i f cs hf
      split at hr
      · rename_i v S' w hcall
        obtain ⟨n, hn⟩ := callX_fuel hcall
        refine ⟨n, ?_⟩
        simp only [hn]
        exact hr
      · cases hr
    · cases hr
  · cases hr

theorem stepC_fuel {fr : Tr} {S : TS} {o : Oper} {r : Tr × TS × Eff} (hr : stepC P loc (callX P cfg orc) base ops fr S o = some r) : ∃ n, stepC P loc (fuelC P cfg orc n) base ops fr S o = some r := by
  unfold stepC at hr
  unfold stepC
  cases h1 : wantOk o ops fr
  · rw [h1] at hr; cases hr
  · cases h2 : wantT o ops fr
    · rw [h1, h2] at hr; exact ⟨0, hr⟩
    · rw [h1, h2] at hr
      simp only [cond_true] at hr ⊢
      split at hr
      · rename_i x hx
        obtain ⟨n, hn⟩ := opT_fuel hx
        refine ⟨n, ?_⟩
        rw [hn]
        exact hr
      · cases hr

theorem runOps_fuel : ∀ {os : List Oper} {fr : Tr} {S : TS} {r : Tr × TS}, runOps P loc (callX P cfg orc) base ops os fr S = some r → ∃ n, runOps P loc (fuelC P cfg orc n) base ops os fr S = some r
  | [], _, _, _, hr => ⟨0, hr⟩
  | o :: os, fr, S, r, hr => by
    simp only [runOps] at hr ⊢
    split at hr
    · rename_i fr1 S1 e hs
      obtain ⟨n, hn⟩ := stepC_fuel hs
      obtain ⟨m, hm⟩ := runOps_fuel hr
      refine ⟨max n m, ?_⟩
      rw [stepC_mono (fuelC_mono (Nat.le_max_left n m)) hn]
      exact runOps_mono (fuelC_mono (Nat.le_max_right n m)) hm
    · cases hr

theorem runCls_fuel : ∀ {os : List Oper} {fr : Tr} {S : TS} {r : Tr × TS × List Eff}, runCls P loc (callX P cfg orc) base ops os fr S = some r → ∃ n, runCls P loc (fuelC P cfg orc n) base ops os fr S = some r
  | [], _, _, _, hr => ⟨0, hr⟩
  | o :: os, fr, S, r, hr => by
    simp only [runCls] at hr ⊢
    split at hr
    · rename_i fr1 S1 e hs
      split at hr
      · rename_i fr2 S2 cs hr2
        obtain ⟨n, hn⟩ := stepC_fuel hs
        obtain ⟨m, hm⟩ := runCls_fuel hr2
        refine ⟨max n m, ?_⟩
        rw [stepC_mono (fuelC_mono (Nat.le_max_left n m)) hn]
        simp only [runCls_mono (fuelC_mono (Nat.le_max_right n m)) hm]
        exact hr
      · cases hr
    · cases hr

theorem regionT_fuel {risk : List (Nat × Nat)} {fr : Tr} {S : TS} {r : Tr × TS} (hr : regionT P loc (callX P cfg orc) base ops risk fr S = some r) : ∃ n, regionT P loc (fuelC P cfg orc n) base ops risk fr S = some r := by
  unfold regionT at hr
  unfold regionT
  cases risk with
  | nil =>
    simp only at hr ⊢
    split at hr
    · rename_i fr1 S1 h1
      obtain ⟨n, hn⟩ := runOps_fuel h1
      exact ⟨n, by rw [hn]; exact hr⟩
    · cases hr
  | cons a l =>
    simp only at hr ⊢
    split at hr
    · rename_i fr1 S1 cs h1
      obtain ⟨n, hn⟩ := runCls_fuel h1
      exact ⟨n, by rw [hn]; exact hr⟩
    · cases hr
end

/-- The code runs, and what it ends with is so. -/
def Ev (P : Program) (cfg : Cfg) (orc : CallF) (c : Code) (fi : FnI) (base : Nat) (fr : Tr) (S : TS) (Q : TX → Tr → TS → Prop) : Prop :=
  ∃ n tx fr' S', exec P cfg orc n c fi base fr S = some (tx, fr', S') ∧ Q tx fr' S'

section
variable {P : Program} {cfg : Cfg} {orc : CallF} {fi : FnI} {base : Nat}

theorem Ev.mono {c : Code} {fr : Tr} {S : TS} {Q Q' : TX → Tr → TS → Prop} (h : Ev P cfg orc c fi base fr S Q) (hq : ∀ tx fr S, Q tx fr S → Q' tx fr S) : Ev P cfg orc c fi base fr S Q' := by
  obtain ⟨n, tx, fr', S', h1, h2⟩ := h
  exact ⟨n, tx, fr', S', h1, hq _ _ _ h2⟩

theorem Ev.region {id : Nat} {ops : Array Oper} {draw : Bool} {fr fr' : Tr} {S S' : TS} {Q : TX → Tr → TS → Prop}
    (h : regionT P fi.loc (callX P cfg orc) base ops (cond draw (riskOf fi.risk id) []) fr S = some (fr', S')) (hq : Q .normal fr' S') : Ev P cfg orc (.region id ops draw) fi base fr S Q := by
  obtain ⟨n, hn⟩ := regionT_fuel h
  refine ⟨n + 1, .normal, fr', S', ?_, hq⟩
  simp only [exec]
  have : fuelC P cfg orc n = orcT orc (enterT P cfg (exec P cfg orc n)) := rfl
  rw [this] at hn
  rw [hn]

theorem Ev.seq {a b : Code} {fr : Tr} {S : TS} {Q : TX → Tr → TS → Prop}
    (h : Ev P cfg orc a fi base fr S fun tx fr S => match tx with | .normal => Ev P cfg orc b fi base fr S Q | tx => Q tx fr S) : Ev P cfg orc (.seq a b) fi base fr S Q := by
  obtain ⟨n, tx, fr1, S1, h1, h2⟩ := h
  cases tx with
  | normal =>
    obtain ⟨m, tx2, fr2, S2, h3, h4⟩ := h2
    refine ⟨max n m + 1, tx2, fr2, S2, ?_, h4⟩
    simp only [exec]
    rw [exec_mono (Nat.le_max_left n m) h1]
    exact exec_mono (Nat.le_max_right n m) h3
  | exit i => refine ⟨n + 1, _, _, _, ?_, h2⟩; simp only [exec]; rw [h1]
  | ret => refine ⟨n + 1, _, _, _, ?_, h2⟩; simp only [exec]; rw [h1]

theorem Ev.cond {x : Operand} {a b : Code} {fr : Tr} {S : TS} {Q : TX → Tr → TS → Prop} {t : Bool} (hx : asBoolT (operand fr x) = some t)
    (h1 : t = true → Ev P cfg orc a fi base fr S Q) (h2 : t = false → Ev P cfg orc b fi base fr S Q) : Ev P cfg orc (.cond x a b) fi base fr S Q := by
  cases t with
  | true =>
    obtain ⟨n, tx, fr1, S1, h3, h4⟩ := h1 rfl
    exact ⟨n + 1, tx, fr1, S1, by simp only [exec, hx]; exact h3, h4⟩
  | false =>
    obtain ⟨n, tx, fr1, S1, h3, h4⟩ := h2 rfl
    exact ⟨n + 1, tx, fr1, S1, by simp only [exec, hx]; exact h3, h4⟩

theorem Ev.block {id : Nat} {c : Code} {fr : Tr} {S : TS} {Q : TX → Tr → TS → Prop}
    (h : Ev P cfg orc c fi base fr S fun tx fr S => match tx with | .exit i => Q (_root_.cond (Nat.beq i id) .normal (.exit i)) fr S | tx => Q tx fr S) : Ev P cfg orc (.block id c) fi base fr S Q := by
  obtain ⟨n, tx, fr1, S1, h1, h2⟩ := h
  cases tx <;> exact ⟨n + 1, _, _, _, by simp only [exec]; rw [h1], h2⟩

theorem Ev.loop1 {c : Code} {fr : Tr} {S : TS} {Q : TX → Tr → TS → Prop}
    (h : Ev P cfg orc c fi base fr S fun tx fr S => match tx with | .normal => Ev P cfg orc (.loop c) fi base fr S Q | tx => Q tx fr S) : Ev P cfg orc (.loop c) fi base fr S Q := by
  obtain ⟨n, tx, fr1, S1, h1, h2⟩ := h
  cases tx with
  | normal =>
    obtain ⟨m, tx2, fr2, S2, h3, h4⟩ := h2
    refine ⟨max n m + 1, tx2, fr2, S2, ?_, h4⟩
    simp only [exec]
    rw [exec_mono (Nat.le_max_left n m) h1]
    exact exec_mono (Nat.le_max_right n m) h3
  | exit i => refine ⟨n + 1, _, _, _, ?_, h2⟩; simp only [exec]; rw [h1]
  | ret => refine ⟨n + 1, _, _, _, ?_, h2⟩; simp only [exec]; rw [h1]

/-- A call is carried out when its body is. -/
theorem callL_enter {f : Nat} {fn : Func} {body : Code} {args as : List TV} {S S1 : TS} {v : TV} {os : List TO} (hf : P.funcs[f]? = some fn) (hb : fn.body = some body)
    (ha : argsT (cfg.get f).byref S args = some (as, S1)) (hle : Nat.ble as.length fn.ntmps = true)
    (h : Ev P cfg orc body (cfg.get f) S1.objs.length ((Tr.mk 12 fn.ntmps).sets 0 as) ⟨S1.objs, false, none⟩ fun tx fr S' => (∀ i, tx ≠ .exit i) ∧
      ∃ vs, resultsT P fr S' fn.results.toList = some vs ∧ retT (cfg.get f).keep S1.objs.length S' vs = some (v, os)) : callL P cfg orc f args S = some (v, ⟨os, false, none⟩, none) := by
  obtain ⟨n, tx, fr, S', h1, h2, vs, h3, h4⟩ := h
  apply callL_of (n := n)
  unfold callT enterT
  simp only [hf, hb, ha, hle, cond_true, h1]
  cases tx with
  | exit i => exact (h2 i rfl).elim
  | normal => simp only [h3, h4]
  | ret => simp only [h3, h4]
end
end Go.TL
