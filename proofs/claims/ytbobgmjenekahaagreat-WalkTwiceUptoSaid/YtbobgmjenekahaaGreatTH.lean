/- Words for printed walks: loops and calls as partial functions, element access, known calls of printed functions. -/
import Derived.Test.YtbobgmjenekahaaGreatTG
set_option linter.unusedVariables false
set_option linter.unusedSimpArgs false
namespace Go.TL

abbrev w64 (n : Int) : Int := IntKind.wrap .i64 n
def at_ {α : Type} (l : List α) : Int → Option α
  | .ofNat n => l[n]?
  | .negSucc _ => none
theorem at_nat {α : Type} (l : List α) (n : Nat) : at_ l (n : Int) = l[n]? := rfl
theorem at_ge {α : Type} {l : List α} {i : Int} {a : α} (h : at_ l i = some a) : 0 ≤ i := by
  cases i with
  | ofNat n => exact Int.natCast_nonneg n
  | negSucc n => cases h
theorem at_some {α : Type} {l : List α} {i : Int} {a : α} (h : at_ l i = some a) : ∃ n : Nat, i = n ∧ l[n]? = some a := by
  cases i with
  | ofNat n => exact ⟨n, rfl, h⟩
  | negSucc n => cases h

theorem obind {α β : Type} {o : Option α} {g : α → Option β} {r : β} (h : o.bind g = some r) : ∃ y, o = some y ∧ g y = some r := by
  cases o with
  | none => cases h
  | some y => exact ⟨y, rfl, h⟩
def sumK {α β γ : Type} (x : α ⊕ β) (f : α → γ) (g : β → γ) : γ := match x with | .inl a => f a | .inr b => g b
theorem sumK_inl {α β γ : Type} (a : α) (f : α → γ) (g : β → γ) : sumK (.inl a) f g = f a := rfl
theorem sumK_inr {α β γ : Type} (b : β) (f : α → γ) (g : β → γ) : sumK (.inr b) f g = g b := rfl

/- Loops. -/
def iterO {σ ρ : Type} (body : σ → Option (σ ⊕ ρ)) : Nat → σ → Option ρ
  | 0, _ => none
  | n + 1, s => (body s).bind fun x => sumK x (iterO body n) some
open Classical in
noncomputable def loopO {σ ρ : Type} (body : σ → Option (σ ⊕ ρ)) (s : σ) : Option ρ := if h : ∃ n r, iterO body n s = some r then some (Classical.choose (Classical.choose_spec h)) else none

section
variable {σ ρ : Type} {body : σ → Option (σ ⊕ ρ)}
theorem iterO_succ : ∀ {n : Nat} {s : σ} {r : ρ}, iterO body n s = some r → iterO body (n + 1) s = some r
  | 0, s, r, h => by cases h
  | n + 1, s, r, h => by
    rw [iterO] at h ⊢
    obtain ⟨x, h1, h2⟩ := obind h
    rw [h1, Option.bind_some]
    cases x with
    | inl s' => rw [sumK_inl] at h2 ⊢; exact iterO_succ h2
    | inr r' => exact h2
theorem iterO_le {n m : Nat} {s : σ} {r : ρ} (hle : n ≤ m) (h : iterO body n s = some r) : iterO body m s = some r := by
  induction hle with
  | refl => exact h
  | step _ ih => exact iterO_succ ih
theorem loopO_of {n : Nat} {s : σ} {r : ρ} (h : iterO body n s = some r) : loopO body s = some r := by
  have hex : ∃ n r, iterO body n s = some r := ⟨n, r, h⟩
  have key : ∀ (m : Nat) (r' : ρ), iterO body m s = some r' → r' = r := by
    intro m r' h2
    rcases Nat.le_total n m with hl | hl
    · rw [iterO_le hl h] at h2; cases h2; rfl
    · rw [iterO_le hl h2] at h; cases h; rfl
  unfold loopO
  rw [dif_pos hex]
  exact congrArg some (key _ _ (Classical.choose_spec (Classical.choose_spec hex)))
theorem loopO_iter {s : σ} {r : ρ} (h : loopO body s = some r) : ∃ n, iterO body n s = some r := by
  unfold loopO at h
  split at h
  · rename_i hex
    cases h
    exact ⟨_, Classical.choose_spec (Classical.choose_spec hex)⟩
  · cases h
/-- One round of a loop. -/
theorem loopO_eq (s : σ) : loopO body s = (body s).bind fun x => sumK x (loopO body) some := by
  cases hb : body s with
  | none =>
    cases hl : loopO body s with
    | none => rfl
    | some r =>
      obtain ⟨n, hn⟩ := loopO_iter hl
      cases n with
      | zero => cases hn
      | succ n => rw [iterO, hb] at hn; cases hn
  | some x =>
    rw [Option.bind_some]
    cases x with
    | inr r => exact loopO_of (n := 1) (by rw [iterO, hb]; rfl)
    | inl s' =>
      rw [sumK_inl]
      cases hl : loopO body s' with
      | some r =>
        obtain ⟨n, hn⟩ := loopO_iter hl
        exact loopO_of (n := n + 1) (by rw [iterO, hb]; exact hn)
      | none =>
        cases hl2 : loopO body s with
        | none => rfl
        | some r =>
          obtain ⟨n, hn⟩ := loopO_iter hl2
          cases n with
          | zero => cases hn
          | succ n =>
            rw [iterO, hb, Option.bind_some, sumK_inl] at hn
            rw [loopO_of hn] at hl; cases hl
theorem loopO_step {s s' : σ} (h : body s = some (.inl s')) : loopO body s = loopO body s' := by rw [loopO_eq, h]; rfl
theorem loopO_done {s : σ} {r : ρ} (h : body s = some (.inr r)) : loopO body s = some r := by rw [loopO_eq, h]; rfl
/-- What is so from round to round. -/
theorem loopO_inv {I : σ → Prop} {Q : ρ → Prop} (h : ∀ s x, I s → body s = some x → sumK x I Q) {s : σ} {r : ρ} (hs : I s) (hr : loopO body s = some r) : Q r := by
  obtain ⟨n, hn⟩ := loopO_iter hr
  clear hr
  induction n generalizing s with
  | zero => cases hn
  | succ n ih =>
    rw [iterO] at hn
    obtain ⟨x, h1, h2⟩ := obind hn
    have := h s x hs h1
    cases x with
    | inl s' => exact ih this h2
    | inr r' => cases h2; exact this
/-- A loop that ends, by a measure. -/
theorem loopO_total {I : σ → Prop} {Q : ρ → Prop} (μ : σ → Nat) (h : ∀ s, I s → ∃ x, body s = some x ∧ sumK x (fun s' => I s' ∧ μ s' < μ s) Q) : ∀ (n : Nat) {s : σ}, I s → μ s < n → ∃ r, loopO body s = some r ∧ Q r
  | 0, _, _, hn => by omega
  | n + 1, s, hs, hn => by
    obtain ⟨x, h1, h2⟩ := h s hs
    cases x with
    | inl s' =>
      obtain ⟨r, h3, h4⟩ := loopO_total μ h n (s := s') h2.1 (by have := h2.2; omega)
      exact ⟨r, by rw [loopO_step h1, h3], h4⟩
    | inr r => exact ⟨r, loopO_done h1, h2⟩
end

/-- How a round of a printed loop goes on. -/
def stepQ {σ ρ : Type} (R : σ → Fr → TS → Prop) (E : ρ → TX → Fr → TS → Prop) (x : σ ⊕ ρ) (tx : TX) (f : Fr) (S : TS) : Prop :=
  match tx with
  | .normal => ∃ s, x = .inl s ∧ R s f S
  | tx => ∃ r, x = .inr r ∧ E r tx f S
section
variable {σ ρ : Type} {R : σ → Fr → TS → Prop} {E : ρ → TX → Fr → TS → Prop} {f : Fr} {S : TS}
theorem stepQ_normal {s : σ} : stepQ R E (.inl s) .normal f S = R s f S := by simp [stepQ]
theorem stepQ_exit {r : ρ} {i : Nat} : stepQ R E (.inr r) (.exit i) f S = E r (.exit i) f S := by simp [stepQ]
theorem stepQ_ret {r : ρ} : stepQ R E (.inr r) .ret f S = E r .ret f S := by simp [stepQ]
end

section
variable {P : Program} {loc : List Nat} {callF : CallF}
theorem wp_loopO {c b : CC} (hb : c = b) {σ ρ : Type} {body : σ → Option (σ ⊕ ρ)} {R : σ → Fr → TS → Prop} {E : ρ → TX → Fr → TS → Prop} {Q : TX → Fr → TS → Prop}
    (hstep : ∀ s x f S, body s = some x → R s f S → wp P loc callF b (stepQ R E x) f S) {s : σ} {r : ρ} (h : loopO body s = some r) {f : Fr} {S : TS} (hR : R s f S)
    (hQ : ∀ tx f S, E r tx f S → Q tx f S) : wp P loc callF (.loop c) Q f S := by
  obtain ⟨n, hn⟩ := loopO_iter h
  clear h
  induction n generalizing s f S with
  | zero => cases hn
  | succ n ih =>
    rw [iterO] at hn
    obtain ⟨x, h1, h2⟩ := obind hn
    refine wp_round hb (wp_mono (hstep s x f S h1 hR) fun tx f' S' hq => ?_)
    cases x with
    | inl s' =>
      cases tx with
      | normal =>
        obtain ⟨s2, e, hR2⟩ := hq
        cases e
        exact ih hR2 h2
      | exit i => obtain ⟨r', e, _⟩ := hq; cases e
      | ret => obtain ⟨r', e, _⟩ := hq; cases e
    | inr r' =>
      cases h2
      cases tx with
      | normal => obtain ⟨s2, e, _⟩ := hq; cases e
      | exit i => obtain ⟨r2, e, hE⟩ := hq; cases e; exact hQ _ _ _ hE
      | ret => obtain ⟨r2, e, hE⟩ := hq; cases e; exact hQ _ _ _ hE
end

/- Elements. -/
theorem indexSl_at {α : Type} {enc : α → List RV} {l : List α} {i : Int} {a : α} (h : at_ l i = some a) {sz : Nat} (hl : (enc a).length = sz) (S : TS) (c : Option Nat) : indexSl S sz (.r (.lst (List.map enc l) c)) i = oval (.ep (enc a) 0) := by
  obtain ⟨n, rfl, hn⟩ := at_some h
  exact indexSl_nat (map_get hn) hl

theorem nilz_int {k : IntKind} {n : Int} : nilz (.int k n) = .sc (.int k n) := (rfl)
theorem nilz_bool {b : Bool} : nilz (.bool b) = .sc (.bool b) := (rfl)
theorem nilz_nil : nilz (.slice none 0 0) = .lst [] none := (rfl)
/- Conditions. -/
theorem beqT {a b : Int} (h : a = b) : (a == b) = true := by simp [h]
theorem beqF {a b : Int} (h : ¬ a = b) : (a == b) = false := by simp [h]
theorem bneT {a b : Int} (h : ¬ a = b) : (a != b) = true := by simp [h]
theorem bneF {a b : Int} (h : a = b) : (a != b) = false := by simp [h]
theorem decT {p : Prop} [Decidable p] (h : p) : decide p = true := decide_eq_true h
theorem decF {p : Prop} [Decidable p] (h : ¬ p) : decide p = false := decide_eq_false h
theorem boolF {b : Bool} (h : ¬ b = true) : b = false := by simpa using h

/- Values, told by trees. -/
def Pt.v (p : Pt) : TV := .agg ((Pt.e p).map .r)
def Node.v (p : Node) : TV := .agg ((Node.e p).map .r)
theorem Pt.ext_ {a b : Pt} (h0 : a.x = b.x) (h1 : a.y = b.y) : a = b := by cases a; cases b; simp only [Pt.mk.injEq]; exact ⟨h0, h1⟩
theorem Node.ext_ {a b : Node} (h0 : a.id = b.id) (h1 : a.pt = b.pt) : a = b := by cases a; cases b; simp only [Node.mk.injEq]; exact ⟨h0, h1⟩
theorem Arc.ext_ {a b : Arc} (h0 : a.id = b.id) (h1 : a.frm = b.frm) (h2 : a.to = b.to) (h3 : a.via = b.via) (h4 : a.left = b.left) (h5 : a.right = b.right) : a = b := by cases a; cases b; simp only [Arc.mk.injEq]; exact ⟨h0, h1, h2, h3, h4, h5⟩
theorem Plan.ext_ {a b : Plan} (h0 : a.nodes = b.nodes) (h1 : a.arcs = b.arcs) (h2 : a.faces = b.faces) : a = b := by cases a; cases b; simp only [Plan.mk.injEq]; exact ⟨h0, h1, h2⟩
def bool1 (b : Bool) : List RV := [.sc (.bool b)]
def lstE {α : Type} (e : α → List RV) (l : List α) : List RV := [.lst (List.map e l) none]
def vL {α : Type} (e : α → List RV) (l : List α) : TV := .r (.lst (List.map e l) none)
theorem bool1_inj (a b : Bool) (h : bool1 a = bool1 b) : a = b := by simpa [bool1] using h
theorem lstE_inj {α : Type} {e : α → List RV} (he : ∀ a b, e a = e b → a = b) (a b : List α) (h : lstE e a = lstE e b) : a = b := by
  simp only [lstE, List.cons.injEq, RV.lst.injEq, and_true] at h
  exact map_inj he h
theorem vL_inj {α : Type} {e : α → List RV} (he : ∀ a b, e a = e b → a = b) (a b : List α) (h : vL e a = vL e b) : a = b := by
  simp only [vL, TV.r.injEq, RV.lst.injEq, and_true] at h
  exact map_inj he h
theorem vI_inj (a b : Int) (h : I a = I b) : a = b := by simpa using h
theorem vB_inj (a b : Bool) (h : B a = B b) : a = b := by simpa using h
theorem vA_inj {α : Type} {e : α → List RV} (he : ∀ a b, e a = e b → a = b) (a b : α) (h : TV.agg ((e a).map .r) = TV.agg ((e b).map .r)) : a = b := by
  simp only [TV.agg.injEq] at h
  exact he _ _ (map_inj (fun _ _ h => by simpa using h) h)
theorem Pt.v_inj (a b : Pt) (h : a.v = b.v) : a = b := vA_inj Pt.e_inj a b h
theorem Node.v_inj (a b : Node) (h : a.v = b.v) : a = b := vA_inj Node.e_inj a b h
theorem Arc.v_inj (a b : Arc) (h : a.v = b.v) : a = b := vA_inj Arc.e_inj a b h

theorem famLook_skip {x : Fam} {xs : List Fam} {f : Nat} {as : List TV} {v : KRes} (h : Nat.beq x.f f = false) (k : famLook f as xs = some v) : famLook f as (x :: xs) = some v := by rw [famLook_miss h]; exact k
theorem goods0 {P : Program} : ∀ x, x ∈ ([] : List Fam) → x.Good P := fun _ h => by cases h
theorem goodsC {P : Program} {x : Fam} {xs : List Fam} (h : x.Good P) (hs : ∀ x, x ∈ xs → x.Good P) : ∀ y, y ∈ x :: xs → y.Good P := fun y hy => by
  cases hy with
  | head => exact h
  | tail _ hy => exact hs y hy
end Go.TL
namespace Go.TL
/- Calls of printed functions, known by what they answer at the empty store. -/
theorem lift_keep {P : Program} {callF : CallF} (hcs : CallSound P callF) {f : Nat} {args : List TV} {sz : Nat} {rows : List (List RV)} {frz : Nat} {low : Option Nat}
    (h : callF f args ⟨[], false, none⟩ = some (.sl 0 0 rows.length 0 none, ⟨[.arr sz rows 0 frz], false, none⟩, low)) (harg : args.all flatT = true) : (KRes.own sz rows frz).Good P f args := by
  obtain ⟨hfn, hs⟩ := hcs _ _ _ _ _ _ h
  refine ⟨hfn, fun S w g vals hsr hv => ?_⟩
  have hs0 : SRep w g [] := ⟨fun o x h => by simp at h, fun o o' h => by simp at h, hsr.imm⟩
  refine (hs w g vals hs0 (flatArgs_rep hv harg)).mono fun e w' hq => ?_
  obtain ⟨v', g0, rfl, x, s, hr⟩ := hq
  have hheap : ∀ b, b < w.heap.size → w'.heap[b]? = w.heap[b]? := fun b hb => x.frame b hb fun o ho => by simp at ho
  let g1 : G := { g with I := g0.I }
  have hI : ∀ b i, g.I b i → g1.I b i ∧ ca w' b i = ca w b i := x.imm
  have hO : ∀ (o : Nat) (y : TO), S.objs[o]? = some y → ∃ y', S.objs[o]? = some y' ∧ OExt g g1 o y y' := fun o y hy => ⟨y, hy, by cases y <;> simp [OExt, g1]⟩
  have hnew : w.heap.size ≤ g0.mu 0 := x.new 0 (by simp) (by simp)
  have X1 : Ext S.objs w g S.objs w' g1 := ⟨x.rest, x.size, hI, fun b i hi => by
    rcases x.inew b i hi with h | h | ⟨o, ho, _⟩
    · exact .inl h
    · exact .inr (.inl h)
    · simp at ho, Nat.le_refl _, fun _ _ => .inl rfl, fun o h1 h2 => by omega, hO, fun b hb _ => hheap b hb, x.frz⟩
  have S1 : SRep w' g1 S.objs := ⟨fun o y hy => by
    have h0 := hsr.obj o y hy
    refine h0.mono hI hO (hheap _ h0.lt) rfl rfl rfl fun i hi => ?_
    rcases x.inew _ i hi with h | h | ⟨o, ho, _⟩
    · exact h
    · have := h0.lt; omega
    · simp at ho, hsr.inj, s.imm⟩
  have hB : ∀ o, o < S.objs.length → g1.mu o ≠ g0.mu 0 := fun o ho he => by
    obtain ⟨y, hy⟩ : ∃ y, S.objs[o]? = some y := ⟨S.objs[o], by simp [ho]⟩
    have h0 := (hsr.obj o y hy).lt
    have : g.mu o = g0.mu 0 := he
    omega
  have hobj := s.obj 0 _ (by simp : ([TO.arr sz rows 0 frz])[0]? = some (.arr sz rows 0 frz))
  have hx : ORep w' (g1.lay S.objs.length (g0.mu 0) (g0.sh 0) (g0.room 0)) (S.objs ++ [.arr sz rows 0 frz]) S.objs.length (.arr sz rows 0 frz) := by
    obtain ⟨C, e, k1, k2, k3, k4, k5, k6, k7⟩ := hobj
    have k5' : ∀ (i : Nat) (e : List RV) (j : Nat) (x : RV), rows[i]? = some e → e[j]? = some x → ∃ v, C[(g1.lay S.objs.length (g0.mu 0) (g0.sh 0) (g0.room 0)).sh S.objs.length + (i * sz + j)]? = some v ∧ RRep w' (g1.lay S.objs.length (g0.mu 0) (g0.sh 0) (g0.room 0)).I v x := by
      intro i e j x h1 h2
      obtain ⟨v, h3, h4⟩ := k5 i e j x h1 h2
      exact ⟨v, by simpa [G.lay] using h3, h4⟩
    refine ⟨C, e, ?_, ?_, ?_, k4, k5', ?_, k7⟩
    · simpa [G.lay] using k1
    · simpa [G.lay] using k2
    · simpa [G.lay] using k3
    · intro k hk
      simp only [G.lay, if_true] at hk ⊢
      exact k6 k hk
  refine ⟨v', g1.lay S.objs.length (g0.mu 0) (g0.sh 0) (g0.room 0), rfl, X1.adopt hnew, S1.adopt hB hx, ?_⟩
  have hsl : SlRep g0 [TO.arr sz rows 0 frz] v' 0 0 rows.length 0 none := hr
  show SlRep _ _ _ _ _ _ _ _
  obtain ⟨a, cap', e1, e2, e3, sz2, es2, w2, fz2, e4, e5, e6⟩ := hsl
  simp only [List.getElem?_cons_zero, Option.some.injEq, TO.arr.injEq] at e4
  obtain ⟨rfl, rfl, rfl, rfl⟩ := e4
  refine ⟨a, cap', e1, e2, by simp, sz, rows, 0, frz, by simp, Nat.le_refl _, fun _ => ?_⟩
  obtain ⟨f1, f2⟩ := e6 rfl
  refine ⟨f1, fun hc => ?_⟩
  have := f2 hc
  simpa [G.lay] using this

def resK (v : TV) (S : TS) : Option KRes :=
  match S, v with
  | ⟨[], false, none⟩, v => cond (flatT v) (some (.flat v)) none
  | ⟨[.arr sz rows 0 frz], false, none⟩, .sl 0 0 len 0 none => cond (Nat.beq len rows.length) (some (.own sz rows frz)) none
  | _, _ => none
noncomputable def famC (P : Program) (cfg : Cfg) (orc : CallF) (f : Nat) : Fam := ⟨f, fun as => cond (as.all flatT) (match callL P cfg orc f as ⟨[], false, none⟩ with | some (v, S, _) => resK v S | none => none) none⟩
section
variable {P : Program} {cfg : Cfg} {orc : CallF} {f : Nat} {as : List TV}
theorem famC_flat {v : TV} {low : Option Nat} (h : callL P cfg orc f as ⟨[], false, none⟩ = some (v, ⟨[], false, none⟩, low)) (h1 : as.all flatT = true) (h2 : flatT v = true) : (famC P cfg orc f).val as = some (.flat v) := by
  simp only [famC, h1, cond_true, h, resK, h2]
theorem famC_own {sz : Nat} {rows : List (List RV)} {frz : Nat} {low : Option Nat} (h : callL P cfg orc f as ⟨[], false, none⟩ = some (.sl 0 0 rows.length 0 none, ⟨[.arr sz rows 0 frz], false, none⟩, low)) (h1 : as.all flatT = true) : (famC P cfg orc f).val as = some (.own sz rows frz) := by
  simp only [famC, h1, cond_true, h, resK, Nat.beq_refl]
theorem famC_good {fams : List Fam} (hs : ∀ {orc : CallF}, CallSound P orc → ∀ n, CallSound P (callT P cfg orc n)) (hf : ∀ x, x ∈ fams → x.Good P) : (famC P cfg (famT fams) f).Good P := by
  intro as r hr
  have hcs : CallSound P (callL P cfg (famT fams)) := callL_sound fun n => hs (famT_sound hf) n
  simp only [famC] at hr
  cases h1 : as.all flatT <;> rw [h1] at hr
  · cases hr
  simp only [cond_true] at hr
  split at hr
  · rename_i v S low hc
    unfold resK at hr
    split at hr
    · cases h2 : flatT v <;> rw [h2] at hr
      · cases hr
      · cases hr
        exact known_of (k := ⟨f, as, v⟩) hcs hc h1 h2
    · rename_i sz rows frz len
      cases h2 : Nat.beq len rows.length <;> rw [h2] at hr
      · cases hr
      · cases hr
        have := Nat.eq_of_beq_eq_true h2
        subst this
        exact lift_keep hcs hc h1
    · cases hr
  · cases hr
end
end Go.TL
/- Growing slices in printed walks. -/
namespace Go.TL

abbrev nilT : TV := .r (.sc (.slice none 0 0))
def objOf : TV → Option Nat
  | .sl o .. => some o
  | _ => none
/-- Two values that are not slices of one object. -/
def Sep (v u : TV) : Prop := ∀ o, objOf v = some o → objOf u ≠ some o

/-- A slice that can be read. -/
inductive Rd (os : List TO) (sz : Nat) : TV → List (List RV) → Prop
  | nil : Rd os sz nilT []
  | lst (c : Option Nat) (rows : List (List RV)) (h : allLen sz rows = true) : Rd os sz (.r (.lst rows c)) rows
  | sl (o off ver : Nat) (cap : Option Nat) (es : List (List RV)) (frz : Nat) (rows : List (List RV)) (ho : os[o]? = some (.arr sz es ver frz)) (hl : off + rows.length ≤ es.length) (he : (es.drop off).take rows.length = rows) (h : allLen sz rows = true) (hz : frz ≤ es.length) :
      Rd os sz (.sl o off rows.length ver cap) rows
/-- A slice that can grow. -/
inductive AccL (os : List TO) (sz : Nat) : TV → List (List RV) → Prop
  | nil : AccL os sz nilT []
  | lit (rows : List (List RV)) (h : allLen sz rows = true) : AccL os sz (.r (.lst rows (some rows.length))) rows
  | sl (o ver frz : Nat) (rows : List (List RV)) (ho : os[o]? = some (.arr sz rows ver frz)) (h : allLen sz rows = true) (hz : frz ≤ rows.length) : AccL os sz (.sl o 0 rows.length ver none) rows
/-- A slice that can grow, and is no literal. -/
inductive Acc (os : List TO) (sz : Nat) : TV → List (List RV) → Prop
  | nil : Acc os sz nilT []
  | sl (o ver frz : Nat) (rows : List (List RV)) (ho : os[o]? = some (.arr sz rows ver frz)) (h : allLen sz rows = true) (hz : frz ≤ rows.length) : Acc os sz (.sl o 0 rows.length ver none) rows
theorem Acc.l {os : List TO} {sz : Nat} {v : TV} {rows : List (List RV)} (h : Acc os sz v rows) : AccL os sz v rows := by
  cases h with
  | nil => exact .nil
  | sl o ver frz _ ho h hz => exact .sl o ver frz _ ho h hz

theorem allLen_nil (sz : Nat) : allLen sz [] = true := rfl
theorem allLen_app {sz : Nat} {a b : List (List RV)} (ha : allLen sz a = true) (hb : allLen sz b = true) : allLen sz (a ++ b) = true := by
  unfold allLen at *; rw [List.all_append, ha, hb]; rfl
theorem allLen_map {α : Type} {enc : α → List RV} {sz : Nat} (h : ∀ a, (enc a).length = sz) (l : List α) : allLen sz (List.map enc l) = true := by
  unfold allLen; simp [h]
theorem allOk_map {α : Type} {enc : α → List RV} (h : ∀ a, (enc a).all okR = true) (l : List α) : (List.map enc l).all (fun e => e.all okR) = true := by
  rw [List.all_map]; simp only [List.all_eq_true, Function.comp_apply]; intro a _ x hx
  exact List.all_eq_true.1 (h a) x hx

section
variable {os : List TO} {sz : Nat} {v : TV} {rows : List (List RV)}
theorem AccL.rd (h : AccL os sz v rows) : Rd os sz v rows := by
  cases h with
  | nil => exact .nil
  | lit _ h => exact .lst _ _ h
  | sl o ver frz _ ho h hz => exact .sl o 0 ver none rows frz rows ho (by simp) (by simp) h hz
theorem Acc.rd (h : Acc os sz v rows) : Rd os sz v rows := h.l.rd
theorem Rd.lens (h : Rd os sz v rows) : allLen sz rows = true := by cases h <;> first | rfl | assumption
/-- What a walk asks of the value alone. -/
theorem Rd.b (h : Rd os sz v rows) : isFp v = false ∧ isLv v = false ∧ unfp v = v ∧ (∀ t, lvp t v = v) ∧ okCell v = true ∧ v.cells = [v] ∧ (∀ d, noFp1 d v = true) := by
  cases h <;> simp [isFp, isLv, unfp, lvp, okCell, okV, TV.cells, noFp1]
theorem Rd.len (h : Rd os sz v rows) : lenT v = some rows.length := by cases h <;> simp [lenT]
theorem Rd.read (h : Rd os sz v rows) : rdSlice (E0 os) v = some rows := by
  cases h with
  | nil => rfl
  | lst c _ h => rfl
  | sl o off ver cap es frz _ ho hl he h hz =>
    have e2 : Nat.ble (off + rows.length) es.length = true := Nat.ble_eq_true_of_le hl
    simp only [rdSlice, ho, Nat.beq_refl, e2, Bool.and_self, cond_true, he]
/-- A place within an element: its cells, from which one on. -/
inductive El (os : List TO) (cells : List RV) : Nat → TV → Prop
  | ep (off : Nat) : El os cells off (.ep cells off)
  | ap (off o idx ver sz frz : Nat) (es : List (List RV)) (ho : os[o]? = some (.arr sz es ver frz)) (he : es[idx]? = some cells) : El os cells off (.ap o idx off ver)
theorem El.b {cells : List RV} {off : Nat} {p : TV} (h : El os cells off p) : isFp p = false ∧ isLv p = false ∧ unfp p = p ∧ (∀ t, lvp t p = p) ∧ (∀ d, noFp1 d p = true) := by
  cases h <;> simp [isFp, isLv, unfp, lvp, noFp1]
theorem El.add {cells : List RV} {off : Nat} {p : TV} (h : El os cells off p) (k : Nat) : ∃ q, addOff k p = some q ∧ El os cells (off + k) q := by
  cases h with
  | ep => exact ⟨_, rfl, .ep _⟩
  | ap o idx ver sz frz es ho he => exact ⟨_, rfl, .ap _ o idx ver sz frz es ho he⟩
def LowEk (e : EK) : Prop := (∀ k : EK, k.kind = 0 → clashK k e = false ∧ clashK e k = false) ∧ (∀ l, clashK (.rd l) e = false ∧ clashK e (.rd l) = false) ∧ clashK (.call true) e = false ∧ clashK e (.call true) = false
theorem lowEk_none : LowEk .none := by
  refine ⟨fun k hk => ?_, fun l => by simp [clashK, EK.kind], by simp [clashK, EK.kind], by simp [clashK, EK.kind]⟩
  cases k <;> simp [EK.kind] at hk <;> simp [clashK, EK.kind]
theorem lowEk_rd (l : List Nat) : LowEk (.rd l) := by
  refine ⟨fun k hk => ?_, fun l => by simp [clashK, EK.kind], by simp [clashK], by simp [clashK]⟩
  cases k <;> simp [EK.kind] at hk <;> simp [clashK, EK.kind]
theorem zeroEk_out {e : EK} (h : ∀ k : EK, k.kind = 0 → clashK k e = false ∧ clashK e k = false) : (∀ d, clashK (.fread d) e = false) ∧ (∀ d, clashK e (.fread d) = false) ∧ (∀ d, clashK (.feff d) e = false) ∧ (∀ d, clashK e (.feff d) = false) ∧ clashK .none e = false ∧ clashK e .none = false :=
  ⟨fun d => (h _ rfl).1, fun d => (h _ rfl).2, fun d => (h _ rfl).1, fun d => (h _ rfl).2, (h _ rfl).1, (h _ rfl).2⟩
theorem lowEk_out {e : EK} (h : LowEk e) : ((∀ d, clashK (.fread d) e = false) ∧ (∀ d, clashK e (.fread d) = false) ∧ (∀ d, clashK (.feff d) e = false) ∧ (∀ d, clashK e (.feff d) = false) ∧ clashK .none e = false ∧ clashK e .none = false) ∧
    (∀ l, clashK (.rd l) e = false ∧ clashK e (.rd l) = false) ∧ clashK (.call true) e = false ∧ clashK e (.call true) = false := ⟨zeroEk_out h.1, h.2⟩
theorem low_low {a b : EK} (h : LowEk a) (k : LowEk b) (hb : b = .none ∨ (∃ l, b = .rd l) ∨ b = .call true) : clashK a b = false ∧ clashK b a = false := by
  rcases hb with rfl | ⟨l, rfl⟩ | rfl
  · exact ⟨(h.1 _ rfl).2, (h.1 _ rfl).1⟩
  · exact ⟨(h.2.1 l).2, (h.2.1 l).1⟩
  · exact ⟨h.2.2.2, h.2.2.1⟩
theorem low_cases {e : EK} (h : LowEk e) : e = .none ∨ (∃ l, e = .rd l) ∨ e = .call true := by
  cases e with
  | none => exact .inl rfl
  | rd l => exact .inr (.inl ⟨l, rfl⟩)
  | fread d => have := (h.1 (.feff d) rfl).1; simp [clashK] at this
  | feff d => have := (h.1 (.feff d) rfl).1; simp [clashK] at this
  | wr => have := (h.2.1 []).1; simp [clashK, EK.kind] at this
  | push n => have := h.2.2.1; simp [clashK, EK.kind] at this
  | call s =>
    cases s with
    | true => exact .inr (.inr rfl)
    | false => have := h.2.2.1; simp [clashK] at this
theorem lowlow {a b : EK} (h : LowEk a) (k : LowEk b) : clashK a b = false ∧ clashK b a = false := low_low h k (low_cases k)
theorem El.load {cells : List RV} {off : Nat} {p : TV} (h : El os cells off p) {n : Nat} {ag : Bool} {w : TV} (hw : partC n ag (cells.map .r) off = some w) :
    ∃ e, (∀ loc f, loadF loc f (E0 os) n ag p = some ⟨w, e⟩) ∧ (∀ f, e.frF f = f) ∧ (∀ S, e.S S = S) ∧ LowEk e.ek := by
  cases h with
  | ep => exact ⟨.none, fun loc f => by simp [loadF, hw], fun f => rfl, fun S => rfl, lowEk_none⟩
  | ap o idx ver sz frz es ho he => exact ⟨.rd [o], fun loc f => by simp only [loadF, ho, Nat.beq_refl, cond_true, he, hw, Option.map_some], fun f => rfl, fun S => rfl, lowEk_rd _⟩
/-- An element, by its number. -/
theorem Rd.idx {α : Type} {enc : α → List RV} {l : List α} (h : Rd os sz v (List.map enc l)) {i : Int} {a : α} (ha : at_ l i = some a) (hl : (enc a).length = sz) :
    ∃ p e, indexSl (E0 os) sz v i = some ⟨p, e⟩ ∧ (∀ f, e.frF f = f) ∧ (∀ S, e.S S = S) ∧ LowEk e.ek ∧ El os (enc a) 0 p := by
  obtain ⟨n, rfl, hn⟩ := at_some ha
  generalize hr : List.map enc l = rows at h
  have hrow : rows[n]? = some (enc a) := by rw [← hr]; exact map_get hn
  have hlt : n < rows.length := get_lt hrow
  cases h with
  | nil => simp at hlt
  | lst c _ h => exact ⟨.ep (enc a) 0, .none, indexSl_nat hrow hl, fun f => rfl, fun S => rfl, lowEk_none, .ep 0⟩
  | sl o off ver cap es frz _ ho hle he h hz =>
    have h2 : es[off + n]? = some (enc a) := by
      rw [← he, List.getElem?_take_of_lt hlt, List.getElem?_drop] at hrow
      exact hrow
    have e2 : Nat.ble (off + rows.length) es.length = true := Nat.ble_eq_true_of_le hle
    have e3 : inRange (n : Int) rows.length = true := by simp [inRange, hlt]
    refine ⟨.ap o (off + n) 0 ver, .rd [o], ?_, fun f => rfl, fun S => rfl, lowEk_rd _, .ap 0 o (off + n) ver sz frz es ho h2⟩
    simp only [indexSl, ho, Nat.beq_refl, e2, e3, Bool.and_self, cond_true, Int.toNat_natCast]
end

/-- The same boxes. -/
def SameB (os os' : List TO) : Prop := ∀ (o : Nat) (cs : List TV), os[o]? = some (TO.box cs) ↔ os'[o]? = some (TO.box cs)
theorem SameB.refl (os : List TO) : SameB os os := fun _ _ => Iff.rfl
theorem SameB.trans {a b c : List TO} (h : SameB a b) (k : SameB b c) : SameB a c := fun o cs => (h o cs).trans (k o cs)
theorem sameB_push {os : List TO} {x : TO} (hx : ∀ cs, x ≠ .box cs) : SameB os (os ++ [x]) := by
  intro o cs
  rcases Nat.lt_trichotomy o os.length with h | h | h
  · rw [List.getElem?_append_left h]
  · subst h
    have e1 : os[os.length]? = none := by simp
    have e2 : (os ++ [x])[os.length]? = some x := by simp
    rw [e1, e2]
    exact ⟨fun h => (by cases h), fun h => (hx cs (Option.some.inj h)).elim⟩
  · have e1 : os[o]? = none := by simp; omega
    have e2 : (os ++ [x])[o]? = none := by simp; omega
    rw [e1, e2]
theorem sameB_set {os : List TO} {o : Nat} {x y : TO} (ho : os[o]? = some y) (hy : ∀ cs, y ≠ .box cs) (hx : ∀ cs, x ≠ .box cs) : SameB os (os.set o x) := by
  intro o' cs
  by_cases h : o = o'
  · subst h
    have e2 : (os.set o x)[o]? = some x := by simp [get_lt ho]
    rw [ho, e2]
    exact ⟨fun h => (hy cs (Option.some.inj h)).elim, fun h => (hx cs (Option.some.inj h)).elim⟩
  · rw [List.getElem?_set_ne h]
/-- A store whose boxes hold no references, and which equals itself as a program tells. -/
structure OsOk (os : List TO) : Prop where
  eq : eqOs os os = true
  flat : ∀ (o : Nat) (cs : List TV), os[o]? = some (TO.box cs) → cs.all flat1 = true
theorem osok0 : OsOk [] := ⟨rfl, fun o cs h => by simp at h⟩

/-- From one store to a later one: what is kept. -/
structure Kept (os os' : List TO) : Prop where
  box : SameB os os'
  own : ∀ sz v rows, Acc os sz v rows → Acc os' sz v rows
  acc : ∀ sz v rows, AccL os sz v rows → AccL os' sz v rows
  rd : ∀ sz v rows, Rd os sz v rows → Rd os' sz v rows
  len : os.length ≤ os'.length
theorem Kept.refl (os : List TO) : Kept os os := ⟨.refl os, fun _ _ _ h => h, fun _ _ _ h => h, fun _ _ _ h => h, Nat.le_refl _⟩
theorem Kept.trans {a b c : List TO} (h : Kept a b) (k : Kept b c) : Kept a c := ⟨h.box.trans k.box, fun _ _ _ x => k.own _ _ _ (h.own _ _ _ x), fun _ _ _ x => k.acc _ _ _ (h.acc _ _ _ x), fun _ _ _ x => k.rd _ _ _ (h.rd _ _ _ x), Nat.le_trans h.len k.len⟩

section
variable {os : List TO} {sz : Nat} {v : TV} {rows : List (List RV)}
theorem eqOs_get : ∀ {os : List TO} {o : Nat} {x : TO}, eqOs os os = true → os[o]? = some x → eqTO x x = true
  | y :: ys, 0, x, h, hx => by simp only [List.getElem?_cons_zero, Option.some.injEq] at hx; subst hx; simp only [eqOs, Bool.and_eq_true] at h; exact h.1
  | y :: ys, o + 1, x, h, hx => by simp only [eqOs, Bool.and_eq_true] at h; exact eqOs_get h.2 (by simpa using hx)
theorem eqOs_push : ∀ {os : List TO} {x : TO}, eqOs os os = true → eqTO x x = true → eqOs (os ++ [x]) (os ++ [x]) = true
  | [], x, _, hx => by simp [eqOs, hx]
  | y :: ys, x, h, hx => by
    simp only [eqOs, Bool.and_eq_true, List.cons_append] at h ⊢
    exact ⟨h.1, eqOs_push h.2 hx⟩
theorem eqOs_set : ∀ {os : List TO} {o : Nat} {x : TO}, eqOs os os = true → eqTO x x = true → eqOs (os.set o x) (os.set o x) = true
  | [], o, x, _, hx => by simp [eqOs]
  | y :: ys, 0, x, h, hx => by
    simp only [eqOs, Bool.and_eq_true, List.set_cons_zero] at h ⊢
    exact ⟨hx, h.2⟩
  | y :: ys, o + 1, x, h, hx => by
    simp only [eqOs, Bool.and_eq_true, List.set_cons_succ] at h ⊢
    exact ⟨h.1, eqOs_set h.2 hx⟩
theorem eqRows_app : ∀ {a b : List (List RV)}, eqRows a a = true → eqRows b b = true → eqRows (a ++ b) (a ++ b) = true
  | [], b, _, hb => hb
  | y :: ys, b, h, hb => by
    simp only [eqRows, Bool.and_eq_true, List.cons_append] at h ⊢
    exact ⟨h.1, eqRows_app h.2 hb⟩
theorem eqRows_map {α : Type} {enc : α → List RV} (h : ∀ a, eqRow (enc a) (enc a) = true) : ∀ l : List α, eqRows (List.map enc l) (List.map enc l) = true
  | [] => rfl
  | a :: l => by simp only [List.map_cons, eqRows, h a, eqRows_map h l, Bool.and_self]
theorem eqCap_refl (c : Option Nat) : eqCap c c = true := by cases c <;> simp [eqCap]
theorem eqRow_lst {es : List (List RV)} (h : eqRows es es = true) (c : Option Nat) : eqRV (.lst es c) (.lst es c) = true := by simp [eqRV, h, eqCap_refl]

/-- How a slice looks that has grown. -/
theorem AccL.app {x : TV} {xs : List (List RV)} {bytes : Nat} (h : AccL os sz v rows) (hos : eqOs os os = true) (hx : rdSlice (E0 os) x = some xs) (hroom : (rows.length + xs.length) * bytes ≤ roomT ∧ rows.length + xs.length ≤ roomT) (hlen : allLen sz xs = true)
    (hok : xs.all (fun e => e.all okR) = true) (hrx : eqRows rows rows = true) (hrf : eqRows xs xs = true) :
    ∃ v' e os', appendX (E0 os) sz bytes v x = some ⟨v', e⟩ ∧ e.S (E0 os) = E0 os' ∧ (∀ f, e.frF f = f) ∧ (∀ k, k.kind = 0 → clashK k e.ek = false ∧ clashK e.ek k = false) ∧ AccL os' sz v' (rows ++ xs) ∧ eqOs os' os' = true ∧ (os.length ≤ os'.length ∧ SameB os os') ∧
      ((xs ≠ [] ∨ Acc os sz v rows) → Acc os' sz v' (rows ++ xs)) ∧ (∀ sz' u r, Sep v u → Acc os sz' u r → Acc os' sz' u r ∧ Sep v' u ∧ Sep u v') ∧ (∀ sz' u r, Sep v u → AccL os sz' u r → AccL os' sz' u r ∧ Sep v' u ∧ Sep u v') ∧ (∀ sz' u r, Sep v u → Rd os sz' u r → Rd os' sz' u r ∧ Sep v' u ∧ Sep u v') := by
  have e1 : Nat.ble ((rows.length + xs.length) * bytes) roomT = true := Nat.ble_eq_true_of_le hroom.1
  have e2 : Nat.ble (rows.length + xs.length) roomT = true := Nat.ble_eq_true_of_le hroom.2
  have hln := h.rd.len
  have kN : ∀ (k : EK) (l : List Nat), k.kind = 0 → clashK k (.rd l) = false ∧ clashK (.rd l) k = false := by intro k l hk; cases k <;> simp [EK.kind] at hk <;> simp [clashK, EK.kind]
  have kW : ∀ k : EK, k.kind = 0 → clashK k .wr = false ∧ clashK .wr k = false := by intro k hk; cases k <;> simp [EK.kind] at hk <;> simp [clashK, EK.kind]
  have kP : ∀ (k : EK) (n : Nat), k.kind = 0 → clashK k (.push n) = false ∧ clashK (.push n) k = false := by intro k n hk; cases k <;> simp [EK.kind] at hk <;> simp [clashK, EK.kind]
  cases xs with
  | nil =>
    refine ⟨v, .rd x.sls, os, ?_, rfl, fun f => rfl, fun k hk => kN k _ hk, by simpa using h, hos, ⟨Nat.le_refl _, .refl _⟩, fun hx => (by rcases hx with h | h; exact (h rfl).elim; simpa using h), fun sz' u r hs ha => ⟨ha, hs, fun o h1 h2 => hs o h2 h1⟩, fun sz' u r hs ha => ⟨ha, hs, fun o h1 h2 => hs o h2 h1⟩, fun sz' u r hs ha => ⟨ha, hs, fun o h1 h2 => hs o h2 h1⟩⟩
    simp only [appendX, hx, hln, e1, e2, hlen, hok, Bool.and_self, cond_true]
  | cons y ys =>
    -- a new array
    have new : ∀ (n : Nat), n = rows.length + (y :: ys).length → appendX (E0 os) sz bytes v x = newArr (E0 os) sz (rows ++ y :: ys) n none x.sls → (∀ o, objOf v ≠ some o) → 
        ∃ v' e os', appendX (E0 os) sz bytes v x = some ⟨v', e⟩ ∧ e.S (E0 os) = E0 os' ∧ (∀ f, e.frF f = f) ∧ (∀ k, k.kind = 0 → clashK k e.ek = false ∧ clashK e.ek k = false) ∧ AccL os' sz v' (rows ++ y :: ys) ∧ eqOs os' os' = true ∧ (os.length ≤ os'.length ∧ SameB os os') ∧
          ((y :: ys ≠ [] ∨ Acc os sz v rows) → Acc os' sz v' (rows ++ y :: ys)) ∧ (∀ sz' u r, Sep v u → Acc os sz' u r → Acc os' sz' u r ∧ Sep v' u ∧ Sep u v') ∧ (∀ sz' u r, Sep v u → AccL os sz' u r → AccL os' sz' u r ∧ Sep v' u ∧ Sep u v') ∧ (∀ sz' u r, Sep v u → Rd os sz' u r → Rd os' sz' u r ∧ Sep v' u ∧ Sep u v') := by
      intro n hn ha hv
      have hlast : (os ++ [TO.arr sz (rows ++ y :: ys) 0 0])[os.length]? = some (.arr sz (rows ++ y :: ys) 0 0) := by simp
      have hlt : ∀ {o : Nat} {z : TO}, os[o]? = some z → (os ++ [TO.arr sz (rows ++ y :: ys) 0 0])[o]? = some z := fun {o z} hz => by rw [List.getElem?_append_left (get_lt hz)]; exact hz
      refine ⟨.sl os.length 0 n 0 none, .push os.length x.sls (.arr sz (rows ++ y :: ys) 0 0), os ++ [.arr sz (rows ++ y :: ys) 0 0], ha, rfl, fun f => rfl, fun k hk => kP k _ hk, ?_, eqOs_push hos ?_, ⟨by simp, sameB_push (by simp)⟩, fun _ => ?_, fun sz' u r hs ha => ?_, fun sz' u r hs ha => ?_, fun sz' u r hs ha => ?_⟩
      · have := AccL.sl (os := os ++ [TO.arr sz (rows ++ y :: ys) 0 0]) (sz := sz) os.length 0 0 (rows ++ y :: ys) hlast (allLen_app h.rd.lens hlen) (Nat.zero_le _)
        rw [List.length_append] at this
        rw [hn]; exact this
      · simp only [eqTO, Nat.beq_refl, Bool.and_true, Bool.true_and]; exact eqRows_app hrx hrf
      · have := Acc.sl (os := os ++ [TO.arr sz (rows ++ y :: ys) 0 0]) (sz := sz) os.length 0 0 (rows ++ y :: ys) hlast (allLen_app h.rd.lens hlen) (Nat.zero_le _)
        rw [List.length_append] at this
        rw [hn]; exact this
      · cases ha with
        | nil => exact ⟨.nil, fun o _ h2 => by simp [objOf] at h2, fun o h2 => by simp [objOf] at h2⟩
        | sl o ver frz r ho hl hz =>
          have := get_lt ho
          exact ⟨.sl o ver frz r (hlt ho) hl hz, fun o' h1 h2 => by simp [objOf] at h1 h2; omega, fun o' h1 h2 => by simp [objOf] at h1 h2; omega⟩
      · cases ha with
        | nil => exact ⟨.nil, fun o _ h2 => by simp [objOf] at h2, fun o h2 => by simp [objOf] at h2⟩
        | lit r hl => exact ⟨.lit r hl, fun o _ h2 => by simp [objOf] at h2, fun o h2 => by simp [objOf] at h2⟩
        | sl o ver frz r ho hl hz =>
          have := get_lt ho
          exact ⟨.sl o ver frz r (hlt ho) hl hz, fun o' h1 h2 => by simp [objOf] at h1 h2; omega, fun o' h1 h2 => by simp [objOf] at h1 h2; omega⟩
      · cases ha with
        | nil => exact ⟨.nil, fun o _ h2 => by simp [objOf] at h2, fun o h2 => by simp [objOf] at h2⟩
        | lst c r hl => exact ⟨.lst c r hl, fun o _ h2 => by simp [objOf] at h2, fun o h2 => by simp [objOf] at h2⟩
        | sl o off ver cap es frz r ho hl he hal hz =>
          have := get_lt ho
          exact ⟨.sl o off ver cap es frz r (hlt ho) hl he hal hz, fun o' h1 h2 => by simp [objOf] at h1 h2; omega, fun o' h1 h2 => by simp [objOf] at h1 h2; omega⟩
    cases h with
    | nil =>
      refine new _ rfl ?_ (fun o => by simp [objOf])
      simp only [List.length_nil, Nat.zero_add] at e1 e2
      simp only [appendX, hx, hln, e1, e2, hlen, hok, Bool.and_self, cond_true, List.nil_append, List.length_nil, Nat.zero_add]
    | lit _ hl =>
      refine new _ rfl ?_ (fun o => by simp [objOf])
      have e3 : Nat.blt rows.length (rows.length + (y :: ys).length) = true := by rw [blt_dec]; simp
      simp only [appendX, hx, hln, e1, e2, hlen, hok, hl, e3, Bool.and_self, cond_true]
    | sl o ver frz _ ho hl hz =>
      have e3 : Nat.ble (0 + rows.length) rows.length = true := by simp
      have e4 : Nat.beq (0 + rows.length) rows.length = true := by simp
      have hlt := get_lt ho
      have hset : (os.set o (.arr sz (rows ++ y :: ys) (ver + 1) frz))[o]? = some (.arr sz (rows ++ y :: ys) (ver + 1) frz) := by simp [hlt]
      have hne : ∀ {o' : Nat} {z : TO}, o' ≠ o → os[o']? = some z → (os.set o (.arr sz (rows ++ y :: ys) (ver + 1) frz))[o']? = some z := fun {o' z} hn hz => by rw [List.getElem?_set_ne (Ne.symm hn)]; exact hz
      refine ⟨.sl o 0 (rows.length + (y :: ys).length) (ver + 1) none, .wr x.sls [o] (E0 (os.set o (.arr sz (rows ++ y :: ys) (ver + 1) frz))), os.set o (.arr sz (rows ++ y :: ys) (ver + 1) frz), ?_, rfl, fun f => rfl, fun k hk => kW k hk, ?_, eqOs_set hos ?_, ⟨by simp, sameB_set ho (by simp) (by simp)⟩, fun _ => ?_, fun sz' u r hs ha => ?_, fun sz' u r hs ha => ?_, fun sz' u r hs ha => ?_⟩
      · simp only [appendX, hx, hln, e1, e2, hlen, hok, ho, Nat.beq_refl, e3, e4, Bool.and_self, cond_true, List.drop_zero, Nat.sub_zero, TS.put]
      · have := AccL.sl (os := os.set o (.arr sz (rows ++ y :: ys) (ver + 1) frz)) (sz := sz) o (ver + 1) frz (rows ++ y :: ys) hset (allLen_app hl hlen) (by rw [List.length_append]; omega)
        rw [List.length_append] at this
        exact this
      · simp only [eqTO, Nat.beq_refl, Bool.and_true, Bool.true_and]; exact eqRows_app hrx hrf
      · have := Acc.sl (os := os.set o (.arr sz (rows ++ y :: ys) (ver + 1) frz)) (sz := sz) o (ver + 1) frz (rows ++ y :: ys) hset (allLen_app hl hlen) (by rw [List.length_append]; omega)
        rw [List.length_append] at this
        exact this
      · cases ha with
        | nil => exact ⟨.nil, fun o _ h2 => by simp [objOf] at h2, fun o h2 => by simp [objOf] at h2⟩
        | sl o' ver' frz' r ho' hl' hz' =>
          have hn : o' ≠ o := fun e => hs o rfl (by simp [objOf, e])
          exact ⟨.sl o' ver' frz' r (hne hn ho') hl' hz', fun k h1 h2 => by simp [objOf] at h1 h2; omega, fun k h1 h2 => by simp [objOf] at h1 h2; omega⟩
      · cases ha with
        | nil => exact ⟨.nil, fun o _ h2 => by simp [objOf] at h2, fun o h2 => by simp [objOf] at h2⟩
        | lit r hl => exact ⟨.lit r hl, fun o _ h2 => by simp [objOf] at h2, fun o h2 => by simp [objOf] at h2⟩
        | sl o' ver' frz' r ho' hl' hz' =>
          have hn : o' ≠ o := fun e => hs o rfl (by simp [objOf, e])
          exact ⟨.sl o' ver' frz' r (hne hn ho') hl' hz', fun k h1 h2 => by simp [objOf] at h1 h2; omega, fun k h1 h2 => by simp [objOf] at h1 h2; omega⟩
      · cases ha with
        | nil => exact ⟨.nil, fun o _ h2 => by simp [objOf] at h2, fun o h2 => by simp [objOf] at h2⟩
        | lst c r hl => exact ⟨.lst c r hl, fun o _ h2 => by simp [objOf] at h2, fun o h2 => by simp [objOf] at h2⟩
        | sl o' off ver' cap es frz' r ho' hl' he hal hz' =>
          have hn : o' ≠ o := fun e => hs o rfl (by simp [objOf, e])
          exact ⟨.sl o' off ver' cap es frz' r (hne hn ho') hl' he hal hz', fun k h1 h2 => by simp [objOf] at h1 h2; omega, fun k h1 h2 => by simp [objOf] at h1 h2; omega⟩

/-- Marks of what does not change alone. -/
theorem kept_frz {o : Nat} {es : List (List RV)} {ver frz frz' : Nat} (ho : os[o]? = some (.arr sz es ver frz)) (hz' : frz' ≤ es.length) : Kept os (os.set o (.arr sz es ver frz')) := by
  have hlt := get_lt ho
  have key : ∀ {o' : Nat} {s2 : Nat} {e2 : List (List RV)} {v2 f2 : Nat}, os[o']? = some (.arr s2 e2 v2 f2) → f2 ≤ e2.length → ∃ f3, (os.set o (.arr sz es ver frz'))[o']? = some (.arr s2 e2 v2 f3) ∧ f3 ≤ e2.length := by
    intro o' s2 e2 v2 f2 h hz
    by_cases hn : o = o'
    · subst hn
      rw [ho] at h; cases h
      exact ⟨frz', by simp [hlt], hz'⟩
    · exact ⟨f2, by rw [List.getElem?_set_ne hn]; exact h, hz⟩
  refine ⟨sameB_set ho (by simp) (by simp), fun s2 u r h => ?_, fun s2 u r h => ?_, fun s2 u r h => ?_, by simp⟩
  · cases h with
    | nil => exact .nil
    | sl o' v2 f2 _ ho' h hz => obtain ⟨f3, h3, h4⟩ := key ho' hz; exact .sl o' v2 f3 _ h3 h h4
  · cases h with
    | nil => exact .nil
    | lit _ h => exact .lit _ h
    | sl o' v2 f2 _ ho' h hz => obtain ⟨f3, h3, h4⟩ := key ho' hz; exact .sl o' v2 f3 _ h3 h h4
  · cases h with
    | nil => exact .nil
    | lst _ _ h => exact .lst _ _ h
    | sl o' off v2 cap e2 f2 _ ho' hl he h hz => obtain ⟨f3, h3, h4⟩ := key ho' hz; exact .sl o' off v2 cap e2 f3 _ h3 hl he h h4
/-- A slice that is told by its elements from now on. -/
theorem Rd.frz0 (h : Rd os sz v rows) (hos : eqOs os os = true) : ∃ os', freeze1 (E0 os) v = some (.lst rows none, E0 os') ∧ Kept os os' ∧ eqOs os' os' = true := by
  cases h with
  | nil => exact ⟨os, rfl, .refl _, hos⟩
  | lst c _ h => exact ⟨os, rfl, .refl _, hos⟩
  | sl o off ver cap es frz _ ho hl he h hz =>
    have e2 : Nat.ble (off + rows.length) es.length = true := Nat.ble_eq_true_of_le hl
    have hr := eqOs_get hos ho
    simp only [eqTO, Bool.and_eq_true] at hr
    refine ⟨os.set o (.arr sz es ver (max frz (off + rows.length))), ?_, kept_frz ho (by omega), eqOs_set hos ?_⟩
    · simp only [freeze1, ho, Nat.beq_refl, e2, Bool.and_self, cond_true, he, TS.put]
    · simp only [eqTO, Nat.beq_refl, Bool.and_true, Bool.true_and]; exact hr.1.1.2
theorem OsOk.same {os os' : List TO} (h : OsOk os) (hb : SameB os os') (he : eqOs os' os' = true) : OsOk os' := ⟨he, fun o cs ho => h.flat o cs ((hb o cs).2 ho)⟩
theorem Rd.frz (h : Rd os sz v rows) (hos : OsOk os) : ∃ os', freeze1 (E0 os) v = some (.lst rows none, E0 os') ∧ Kept os os' ∧ OsOk os' := by
  obtain ⟨os', h1, h2, h3⟩ := h.frz0 hos.eq
  exact ⟨os', h1, h2, hos.same h2.box h3⟩
theorem Rd.arg (h : Rd os sz v rows) (hos : OsOk os) : ∃ os', argT false (E0 os) v = some (.r (.lst rows none), E0 os') ∧ argCell false (E0 os) v = some (.r (.lst rows none), E0 os') ∧ Kept os os' ∧ OsOk os' := by
  cases h with
  | nil => exact ⟨os, rfl, rfl, .refl _, hos⟩
  | lst c _ h => exact ⟨os, rfl, rfl, .refl _, hos⟩
  | sl o off ver cap es frz _ ho hl he h hz =>
    obtain ⟨os', h1, h2, h3⟩ := (Rd.sl o off ver cap es frz rows ho hl he h hz).frz hos
    refine ⟨os', ?_, ?_, h2, h3⟩ <;> simp only [argT, argCell, cond_false, h1]
theorem argsT_cons {S S1 S2 : TS} {a x : TV} {as xs : List TV} (h1 : argT false S a = some (x, S1)) (h2 : argsT false S1 as = some (xs, S2)) : argsT false S (a :: as) = some (x :: xs, S2) := by simp only [argsT, h1, h2]
theorem freezeVs_cons {S S1 S2 : TS} {a x : TV} {as xs : List TV} (h1 : freezeV S a = some (x, S1)) (h2 : freezeVs S1 as = some (xs, S2)) : freezeVs S (a :: as) = some (x :: xs, S2) := by simp only [freezeVs, h1, h2]
theorem freezeV_rd (h : Rd os sz v rows) {os' : List TO} (hf : freeze1 (E0 os) v = some (.lst rows none, E0 os')) : freezeV (E0 os) v = some (.r (.lst rows none), E0 os') := by
  cases h with
  | nil => simp only [freezeV, hf]
  | lst c _ h => simp only [freezeV, hf]
  | sl o off ver cap es frz _ ho hl he h hz => simp only [freezeV, hf]
theorem leaks_0 : ∀ (os : List TO) (i : Nat), leaks 0 os i = false
  | [], _ => rfl
  | x :: os, i => by cases x <;> simp [leaks, leaks_0 os, Nat.blt]
def retG (loc : List Nat) (keep : Bool) (res : List XR) (f : Fr) (S : TS) (v : TV) (os : List TO) : Prop := ∃ vs, resF loc f S res = some vs ∧ retT keep 0 S vs = some (v, os)
theorem retG_of {loc : List Nat} {res : List XR} {f : Fr} {vs xs : List TV} {os' : List TO} (h1 : resF loc f (E0 os) res = some vs) (h2 : freezeVs (E0 os) vs = some (xs, E0 os')) : retG loc false res f (E0 os) (one xs) [] := by
  refine ⟨vs, h1, ?_⟩
  have hl := leaks_0 os' 0
  simp only [retT, h2, hl, cond_false, List.take_zero]
end

theorem callL_wpG {P : Program} {cfg : Cfg} {orc : CallF} {f : Nat} {xf : XF} {args ax : List TV} {v : TV} {os : List TO} (hc : compF P cfg f = some xf) (hle : Nat.ble ax.length xf.nt = true) (ha : argsT xf.byref (E0 []) args = some (ax, E0 []))
    (h : wp P xf.loc (callX P cfg orc) xf.body (fun tx f S' => tx = .ret ∧ retG xf.loc xf.keep xf.res f S' v os) (initF 0 ax) (E0 [])) :
    callL P cfg orc f args (E0 []) = some (v, ⟨os, false, none⟩, none) :=
  callL_wp hc hle ha (wp_mono h fun tx f S hq => ⟨fun i => by rw [hq.1]; simp, hq.2⟩)

theorem resF1_of {loc : List Nat} {f : Fr} {S : TS} {t : Nat} {v : TV} (h : f t = v) (hl : isLv v = false) : resF1 loc f S (.tmp t) = some v := by
  simp only [resF1, h]
  cases v <;> first | rfl | (simp [isLv] at hl)
theorem resF_nil {loc : List Nat} {f : Fr} {S : TS} : resF loc f S [] = some [] := rfl
theorem resF_cons {loc : List Nat} {f : Fr} {S : TS} {x : XR} {xs : List XR} {v : TV} {vs : List TV} (h1 : resF1 loc f S x = some v) (h2 : resF loc f S xs = some vs) : resF loc f S (x :: xs) = some (v :: vs) := by simp only [resF, h1, h2]
/- Calls at any store. -/
theorem leaks_flat {b : Nat} : ∀ {os : List TO} {i : Nat}, (∀ (o : Nat) (cs : List TV), os[o]? = some (TO.box cs) → cs.all flat1 = true) → leaks b os i = false
  | [], _, _ => rfl
  | x :: os, i, h => by
    have ih : leaks b os (i + 1) = false := leaks_flat fun o cs ho => h (o + 1) cs (by simpa using ho)
    cases x with
    | box cs =>
      have h0 := h 0 cs (by simp)
      have : cs.any (·.refGe b) = false := by
        rw [List.any_eq_false]
        intro c hc
        have h1 := List.all_eq_true.1 h0 c hc
        cases c <;> simp [flat1] at h1
        simp [TV.refGe, refGe1]
      simp only [leaks, this, Bool.and_false, ih, Bool.or_self]
    | arr _ _ _ _ => simp only [leaks, ih]
    | map _ _ _ => simp only [leaks, ih]
theorem OsOk.leak {os : List TO} (q : OsOk os) : leaks os.length os 0 = false := leaks_flat q.flat
theorem OsOk.box {os : List TO} {cs : List TV} (q : OsOk os) (hf : cs.all flat1 = true) (he : eqTVs cs cs = true) : OsOk (os ++ [.box cs]) := by
  refine ⟨eqOs_push q.eq (by simp only [eqTO]; exact he), fun o ds h => ?_⟩
  rcases Nat.lt_trichotomy o os.length with h1 | h1 | h1
  · rw [List.getElem?_append_left h1] at h; exact q.flat o ds h
  · subst h1
    have e2 : (os ++ [TO.box cs])[os.length]? = some (TO.box cs) := by simp
    rw [e2] at h; cases h; exact hf
  · have e2 : (os ++ [TO.box cs])[o]? = none := by simp; omega
    rw [e2] at h; cases h
def retGb (loc : List Nat) (keep : Bool) (res : List XR) (f : Fr) (S : TS) (b : Nat) (v : TV) (os : List TO) : Prop := ∃ vs, resF loc f S res = some vs ∧ retT keep b S vs = some (v, os)
theorem callL_wpGb {P : Program} {cfg : Cfg} {orc : CallF} {f : Nat} {xf : XF} {args ax : List TV} {v : TV} {os0 os : List TO} (hc : compF P cfg f = some xf) (hle : Nat.ble ax.length xf.nt = true) (ha : argsT xf.byref (E0 os0) args = some (ax, E0 os0))
    (h : wp P xf.loc (callX P cfg orc) xf.body (fun tx f S' => tx = .ret ∧ retGb xf.loc xf.keep xf.res f S' os0.length v os) (initF 0 ax) (E0 os0)) :
    callL P cfg orc f args (E0 os0) = some (v, ⟨os, false, none⟩, none) :=
  callL_wp hc hle ha (wp_mono h fun tx f S hq => ⟨fun i => by rw [hq.1]; simp, hq.2⟩)
theorem argsTb_cons {b : Bool} {S S1 S2 : TS} {a x : TV} {as xs : List TV} (h1 : argT b S a = some (x, S1)) (h2 : argsT b S1 as = some (xs, S2)) : argsT b S (a :: as) = some (x :: xs, S2) := by simp only [argsT, h1, h2]
theorem Rd.argB {os : List TO} {sz : Nat} {v : TV} {rows : List (List RV)} (h : Rd os sz v rows) : argT true (E0 os) v = some (v, E0 os) := by cases h <;> rfl
/-- How much may be appended. -/
def appO {α : Type} (bytes : Nat) (xs ys : List α) : Option (List α) := if (xs.length + ys.length) * bytes ≤ roomT ∧ xs.length + ys.length ≤ roomT then some (xs ++ ys) else none
theorem appO_some {α : Type} {bytes : Nat} {xs ys zs : List α} (h : appO bytes xs ys = some zs) : zs = xs ++ ys ∧ (xs.length + ys.length) * bytes ≤ roomT ∧ xs.length + ys.length ≤ roomT := by
  unfold appO at h
  split at h
  · cases h; exact ⟨rfl, by assumption⟩
  · cases h
theorem appO_ok {α : Type} {bytes : Nat} {xs ys : List α} (h : (xs.length + ys.length) * bytes ≤ 1099511627776) (hb : 1 ≤ bytes) : appO bytes xs ys = some (xs ++ ys) := by
  unfold appO
  rw [if_pos ⟨h, Nat.le_trans (Nat.le_mul_of_pos_right _ hb) h⟩]
/-- What is asked of the cells of an element. -/
structure EncOk {α : Type} (enc : α → List RV) (sz : Nat) : Prop where
  len : ∀ a, (enc a).length = sz
  ok : ∀ a, (enc a).all okR = true
  refl : ∀ a, eqRow (enc a) (enc a) = true
theorem int1_ok : EncOk int1 1 := ⟨fun _ => rfl, fun _ => rfl, fun a => by simp [int1, eqRow, eqRV, eqVal, eqVal0]⟩
theorem bool1_ok : EncOk bool1 1 := ⟨fun _ => rfl, fun _ => rfl, fun a => by simp [bool1, eqRow, eqRV, eqVal, eqVal0]⟩
theorem lstE_ok {α : Type} {enc : α → List RV} {sz : Nat} (h : EncOk enc sz) : EncOk (lstE enc) 1 := ⟨fun _ => rfl, fun _ => rfl, fun a => by simp [lstE, eqRow, eqRow_lst (eqRows_map h.refl a)]⟩
theorem eqRV_int (k : IntKind) (n : Int) : eqRV (.sc (.int k n)) (.sc (.int k n)) = true := by simp [eqRV, eqVal, eqVal0]
theorem eqRV_bool (b : Bool) : eqRV (.sc (.bool b)) (.sc (.bool b)) = true := by simp [eqRV, eqVal, eqVal0]
theorem eqRV_lst {α : Type} {enc : α → List RV} {sz : Nat} (h : EncOk enc sz) (l : List α) : eqRV (.lst (List.map enc l) none) (.lst (List.map enc l) none) = true := eqRow_lst (eqRows_map h.refl l) none
theorem Pt.eok : EncOk Pt.e 2 := ⟨fun _ => rfl, fun _ => rfl, fun a => by simp only [Pt.e, eqRow, eqRV_int, Bool.and_self]⟩
theorem Node.eok : EncOk Node.e 3 := ⟨fun _ => rfl, fun _ => rfl, fun a => by simp only [Node.e, eqRow, eqRV_int, Bool.and_self]⟩
theorem Arc.eok : EncOk Arc.e 6 := ⟨fun _ => rfl, fun _ => rfl, fun a => by simp only [Arc.e, eqRow, eqRV_int, eqRV_lst Pt.eok, Bool.and_self]⟩
theorem sep_r {x : RV} {u : TV} : Sep (.r x) u := fun o h => by simp [objOf] at h
theorem sep_r' {x : RV} {u : TV} : Sep u (.r x) := fun o _ h => by simp [objOf] at h
theorem AccL.appT {α : Type} {enc : α → List RV} {os : List TO} {sz bytes : Nat} {v x : TV} {xs ys zs : List α} (E : EncOk enc sz) (hz : appO bytes xs ys = some zs) (A : AccL os sz v (List.map enc xs)) (hos : OsOk os) (hx : rdSlice (E0 os) x = some (List.map enc ys)) :
    ∃ v' e os', appendX (E0 os) sz bytes v x = some ⟨v', e⟩ ∧ e.S (E0 os) = E0 os' ∧ (∀ f, e.frF f = f) ∧ (∀ k, k.kind = 0 → clashK k e.ek = false ∧ clashK e.ek k = false) ∧ AccL os' sz v' (List.map enc zs) ∧ OsOk os' ∧ SameB os os' ∧ ((ys ≠ [] ∨ Acc os sz v (List.map enc xs)) → Acc os' sz v' (List.map enc zs)) ∧
      (∀ sz' u r, Sep v u → Acc os sz' u r → Acc os' sz' u r ∧ Sep v' u ∧ Sep u v') ∧ (∀ sz' u r, Sep v u → AccL os sz' u r → AccL os' sz' u r ∧ Sep v' u ∧ Sep u v') ∧ (∀ sz' u r, Sep v u → Rd os sz' u r → Rd os' sz' u r ∧ Sep v' u ∧ Sep u v') := by
  obtain ⟨rfl, h1, h2⟩ := appO_some hz
  obtain ⟨v', e, os', k1, k2, k3, k4, k5, k6, kB, kA, k7, k8, k9⟩ := A.app (bytes := bytes) hos.eq hx (by simpa using ⟨h1, h2⟩) (allLen_map E.len ys) (allOk_map E.ok ys) (eqRows_map E.refl xs) (eqRows_map E.refl ys)
  rw [← List.map_append] at k5 kA
  exact ⟨v', e, os', k1, k2, k3, k4, k5, hos.same kB.2 k6, kB.2, fun h => kA (h.imp (fun h => by simpa using h) id), k7, k8, k9⟩
theorem sameS_refl {os : List TO} (h : OsOk os) : sameS (E0 os) (E0 os) = true := by simp [sameS, h.eq]
theorem argCells_cons {S S1 S2 : TS} {a x : TV} {as xs : List TV} (h1 : argCell false S a = some (x, S1)) (h2 : argCells false S1 as = some (xs, S2)) : argCells false S (a :: as) = some (x :: xs, S2) := by simp only [argCells, h1, h2]
theorem argT_agg {S S1 : TS} {cs xs : List TV} (h : argCells false S cs = some (xs, S1)) : argT false S (.agg cs) = some (.agg xs, S1) := by simp only [argT, h]
theorem freezeL_cons {S S1 S2 : TS} {a : TV} {x : RV} {as : List TV} {xs : List RV} (h1 : freeze1 S a = some (x, S1)) (h2 : freezeL S1 as = some (xs, S2)) : freezeL S (a :: as) = some (x :: xs, S2) := by simp only [freezeL, h1, h2]
theorem freezeV_agg {S S1 : TS} {cs : List TV} {xs : List RV} (h : freezeL S cs = some (xs, S1)) : freezeV S (.agg cs) = some (.agg (xs.map .r), S1) := by simp only [freezeV, h]
/-- A slice of a slice. -/
def subO {α : Type} (l : List α) (lo hi : Int) : Option (List α) := if 0 ≤ lo ∧ lo ≤ hi ∧ hi ≤ l.length then some ((l.drop lo.toNat).take (hi - lo).toNat) else none
theorem subO_some {α : Type} {l m : List α} {lo hi : Int} (h : subO l lo hi = some m) : ∃ a b : Nat, lo = a ∧ hi = b ∧ a ≤ b ∧ b ≤ l.length ∧ m = (l.drop a).take (b - a) ∧ m.length = b - a := by
  unfold subO at h
  split at h
  · rename_i hc
    obtain ⟨h1, h2, h3⟩ := hc
    obtain ⟨a, rfl⟩ := Int.eq_ofNat_of_zero_le h1
    obtain ⟨b, rfl⟩ := Int.eq_ofNat_of_zero_le (Int.le_trans h1 h2)
    cases h
    refine ⟨a, b, rfl, rfl, by omega, by omega, ?_, ?_⟩
    · congr 1 <;> omega
    · rw [List.length_take, List.length_drop]; omega
  · cases h
section
variable {α : Type} {enc : α → List RV} {sz : Nat} {l m : List α} {lo hi : Int}
theorem headLen_map (E : EncOk enc sz) (l : List α) : headLen sz (List.map enc l) = true := by
  cases l with
  | nil => rfl
  | cons a l => simp [headLen, E.len]
theorem slice_core (E : EncOk enc sz) {a b : Nat} (h1 : a ≤ b) (h2 : b ≤ l.length) (S : TS) (c : Option Nat) (xlo xhi : Option TV) (hlo : optInt xlo 0 = some a) (hhi : optInt xhi l.length = some b) :
    sliceT S sz (.r (.lst (List.map enc l) c)) xlo xhi none = oval (.r (.lst (List.map enc ((l.drop a).take (b - a))) (capT false c l.length a))) := by
  have e0 : (List.map enc l).length = l.length := by simp
  have e1 : Nat.ble a b = true := Nat.ble_eq_true_of_le h1
  have e2 : Nat.ble b l.length = true := Nat.ble_eq_true_of_le h2
  have e3 : Nat.ble l.length l.length = true := Nat.ble_eq_true_of_le (Nat.le_refl _)
  simp only [sliceT, lenT, e0, hlo, hhi]
  simp only [optInt, e1, e2, e3, Option.isNone_none, Option.isSome_none, Bool.true_or, Bool.and_self, cond_true, headLen_map E, List.map_take, List.map_drop]
theorem sliceT_lohi (E : EncOk enc sz) (h : subO l lo hi = some m) (S : TS) : sliceT S sz (.r (.lst (List.map enc l) none)) (some (I lo)) (some (I hi)) none = oval (.r (.lst (List.map enc m) none)) := by
  obtain ⟨a, b, rfl, rfl, h1, h2, rfl, _⟩ := subO_some h
  exact slice_core E h1 h2 S none _ _ rfl rfl
theorem sliceT_lo (E : EncOk enc sz) (h : subO l lo (l.length : Int) = some m) (S : TS) : sliceT S sz (.r (.lst (List.map enc l) none)) (some (I lo)) none none = oval (.r (.lst (List.map enc m) none)) := by
  obtain ⟨a, b, rfl, hb, h1, h2, rfl, _⟩ := subO_some h
  have : b = l.length := by omega
  subst this
  exact slice_core E h1 h2 S none _ _ rfl rfl
theorem sliceT_hi (E : EncOk enc sz) (h : subO l 0 hi = some m) (S : TS) : sliceT S sz (.r (.lst (List.map enc l) none)) none (some (I hi)) none = oval (.r (.lst (List.map enc m) none)) := by
  obtain ⟨a, b, ha, rfl, h1, h2, rfl, _⟩ := subO_some h
  have : a = 0 := by omega
  subst this
  exact slice_core E h1 h2 S none _ _ rfl rfl
theorem Rd.slice (E : EncOk enc sz) {os : List TO} {v : TV} {a b : Nat} (h : Rd os sz v (List.map enc l)) (h1 : a ≤ b) (h2 : b ≤ l.length) (xlo xhi : Option TV) (hlo : optInt xlo 0 = some a) (hhi : optInt xhi l.length = some b) :
    ∃ v' e, sliceT (E0 os) sz v xlo xhi none = some ⟨v', e⟩ ∧ (∀ f, e.frF f = f) ∧ (∀ S, e.S S = S) ∧ LowEk e.ek ∧ Rd os sz v' (List.map enc ((l.drop a).take (b - a))) ∧ objOf v' = objOf v := by
  generalize hr : List.map enc l = rows at h
  have e0 : rows.length = l.length := by rw [← hr]; simp
  have e1 : Nat.ble a b = true := Nat.ble_eq_true_of_le h1
  have e2 : Nat.ble b l.length = true := Nat.ble_eq_true_of_le h2
  have e3 : Nat.ble l.length l.length = true := Nat.ble_eq_true_of_le (Nat.le_refl _)
  cases h with
  | nil =>
    have hl : l = [] := by cases l with | nil => rfl | cons _ _ => simp at hr
    subst hl
    have hb : b = 0 := by simpa using h2
    have ha : a = 0 := by omega
    subst hb; subst ha
    refine ⟨nilT, .none, ?_, fun f => rfl, fun S => rfl, lowEk_none, by simpa using Rd.nil, rfl⟩
    simp only [List.length_nil] at hhi
    simp only [sliceT, lenT, hlo, hhi]
    have e9 : Nat.ble 0 0 = true := rfl
    simp [optInt, oval, e9]
  | lst c _ h =>
    subst hr
    exact ⟨_, .none, slice_core E h1 h2 _ c xlo xhi hlo hhi, fun f => rfl, fun S => rfl, lowEk_none, .lst _ _ (allLen_map E.len _), rfl⟩
  | sl o off ver cap es frz _ ho hle he h hz =>
    have hlen : (List.map enc ((l.drop a).take (b - a))).length = b - a := by rw [List.length_map, List.length_take, List.length_drop]; omega
    refine ⟨.sl o (off + a) (b - a) ver (capT false cap l.length a), .rd [o], ?_, fun f => rfl, fun S => rfl, lowEk_rd _, ?_, rfl⟩
    · simp only [sliceT, lenT, e0, hlo, hhi]
      simp only [optInt, e1, e2, e3, Option.isNone_none, Option.isSome_none, Bool.true_or, Bool.and_self, cond_true, ho, Nat.beq_refl]
    · have := Rd.sl (sz := sz) o (off + a) ver (capT false cap l.length a) es frz (List.map enc ((l.drop a).take (b - a))) ho (by rw [hlen]; omega) (by
        rw [hlen, List.map_take, List.map_drop, hr, ← he, List.drop_take, List.take_take, List.drop_drop, Nat.min_eq_left (by omega)]) (allLen_map E.len _) hz
      rwa [hlen] at this
theorem Rd.slice_lohi (E : EncOk enc sz) {os : List TO} {v : TV} (h : Rd os sz v (List.map enc l)) (hs : subO l lo hi = some m) :
    ∃ v' e, sliceT (E0 os) sz v (some (I lo)) (some (I hi)) none = some ⟨v', e⟩ ∧ (∀ f, e.frF f = f) ∧ (∀ S, e.S S = S) ∧ LowEk e.ek ∧ Rd os sz v' (List.map enc m) ∧ objOf v' = objOf v := by
  obtain ⟨a, b, rfl, rfl, h1, h2, rfl, _⟩ := subO_some hs
  exact h.slice E h1 h2 _ _ rfl rfl
theorem Rd.slice_lo (E : EncOk enc sz) {os : List TO} {v : TV} (h : Rd os sz v (List.map enc l)) (hs : subO l lo (l.length : Int) = some m) :
    ∃ v' e, sliceT (E0 os) sz v (some (I lo)) none none = some ⟨v', e⟩ ∧ (∀ f, e.frF f = f) ∧ (∀ S, e.S S = S) ∧ LowEk e.ek ∧ Rd os sz v' (List.map enc m) ∧ objOf v' = objOf v := by
  obtain ⟨a, b, rfl, hb, h1, h2, rfl, _⟩ := subO_some hs
  have : b = l.length := by omega
  subst this
  exact h.slice E h1 h2 _ _ rfl rfl
theorem Rd.slice_hi (E : EncOk enc sz) {os : List TO} {v : TV} (h : Rd os sz v (List.map enc l)) (hs : subO l 0 hi = some m) :
    ∃ v' e, sliceT (E0 os) sz v none (some (I hi)) none = some ⟨v', e⟩ ∧ (∀ f, e.frF f = f) ∧ (∀ S, e.S S = S) ∧ LowEk e.ek ∧ Rd os sz v' (List.map enc m) ∧ objOf v' = objOf v := by
  obtain ⟨a, b, ha, rfl, h1, h2, rfl, _⟩ := subO_some hs
  have : a = 0 := by omega
  subst this
  exact h.slice E h1 h2 _ _ rfl rfl
theorem sep_objl {v v' u : TV} (h : objOf v' = objOf v) (s : Sep v u) : Sep v' u := fun o ho => s o (h ▸ ho)
theorem sep_objr {v v' u : TV} (h : objOf v' = objOf v) (s : Sep u v) : Sep u v' := fun o ho hv => s o ho (h ▸ hv)
end
theorem bneF_ {a b : Int} (h : ¬ ¬ a = b) : (a != b) = false := by simpa using h
theorem optInt_I (n : Int) : True := trivial
end Go.TL
/- Calls that hand back a slice of their own. -/
namespace Go.TL
/-- All equations of a walk. -/
theorem wz : type_of% (And.intro ws0 (And.intro ws1 (And.intro ws2 (And.intro ws3 (And.intro ws4 (And.intro ws5 (And.intro ws6 (And.intro ws7 (And.intro ws8 (And.intro @nilz_int (And.intro @nilz_bool (And.intro nilz_nil (And.intro @closed_clV (And.intro @exists_eq_left'.{1} (And.intro @if_true.{1} (And.intro @if_false.{1} (And.intro @ne_eq.{1} (And.intro @forall_const.{0} (And.intro @forall_const.{1} (And.intro @implies_true.{0} (And.intro @implies_true.{1} (@List.length_map.{0,0})))))))))))))))))))))) := And.intro ws0 (And.intro ws1 (And.intro ws2 (And.intro ws3 (And.intro ws4 (And.intro ws5 (And.intro ws6 (And.intro ws7 (And.intro ws8 (And.intro @nilz_int (And.intro @nilz_bool (And.intro nilz_nil (And.intro @closed_clV (And.intro @exists_eq_left'.{1} (And.intro @if_true.{1} (And.intro @if_false.{1} (And.intro @ne_eq.{1} (And.intro @forall_const.{0} (And.intro @forall_const.{1} (And.intro @implies_true.{0} (And.intro @implies_true.{1} (@List.length_map.{0,0})))))))))))))))))))))

def KOk (c : Option (TV × TS × Option Nat)) (sz : Nat) (rows : List (List RV)) : Prop :=
  (rows = [] ∧ c = some (nilT, E0 [], none)) ∨ ∃ frz, frz ≤ rows.length ∧ c = some (.sl 0 0 rows.length 0 none, E0 [.arr sz rows 0 frz], none)
def KVal (x : Option KRes) (sz : Nat) (rows : List (List RV)) : Prop :=
  (rows = [] ∧ x = some (.flat nilT)) ∨ ∃ frz, frz ≤ rows.length ∧ x = some (.own sz rows frz)

/-- What a call leaves that hands back a slice of its own. -/
def KPost (loc : List Nat) (res : List XR) (f : Fr) (S : TS) (sz : Nat) (rows : List (List RV)) : Prop := ∃ os v, S = E0 os ∧ Acc os sz v rows ∧ resF loc f S res = some [v]
theorem callL_wpK {P : Program} {cfg : Cfg} {orc : CallF} {f : Nat} {xf : XF} {args ax : List TV} {sz : Nat} {rows : List (List RV)} (hc : compF P cfg f = some xf) (hle : Nat.ble ax.length xf.nt = true) (ha : argsT xf.byref (E0 []) args = some (ax, E0 [])) (hk : xf.keep = true)
    (h : wp P xf.loc (callX P cfg orc) xf.body (fun tx f S' => tx = .ret ∧ KPost xf.loc xf.res f S' sz rows) (initF 0 ax) (E0 [])) :
    KOk (callL P cfg orc f args (E0 [])) sz rows := by
  obtain ⟨tx, f', S', ⟨rfl, os, v, rfl, A, hr⟩, hw⟩ := wp_det h
  have hl : ∀ os : List TO, leaks (E0 []).objs.length os 0 = false := fun os => leaks_0 os 0
  cases A with
  | nil =>
    refine .inl ⟨rfl, callL_wp (S1 := E0 []) hc hle ha (hw _ ⟨fun i => by simp, [nilT], hr, ?_⟩)⟩
    rw [hk]
    simp only [retT, hl, cond_false]
    rfl
  | sl o ver frz _ ho h hz =>
    refine .inr ⟨frz, hz, callL_wp (S1 := E0 []) hc hle ha (hw _ ⟨fun i => by simp, [.sl o 0 rows.length ver none], hr, ?_⟩)⟩
    rw [hk]
    have e1 : Nat.blt o 0 = false := rfl
    have e2 : Nat.ble rows.length rows.length = true := Nat.ble_eq_true_of_le (Nat.le_refl _)
    have e3 : Nat.ble frz rows.length = true := Nat.ble_eq_true_of_le hz
    have hl0 := leaks_0 os 0
    simp only [retT, hl0, cond_false, keepT, List.length_nil, e1, ho, Nat.beq_refl, e2, e3, Bool.and_self, cond_true, List.take_zero, List.nil_append, List.drop_zero, Nat.sub_zero, List.take_length, Nat.zero_add]

section
variable {P : Program} {cfg : Cfg} {orc : CallF} {f : Nat} {as : List TV} {sz : Nat} {rows : List (List RV)}
theorem kval (h : KOk (callL P cfg orc f as (E0 [])) sz rows) (h1 : as.all flatT = true) : KVal ((famC P cfg orc f).val as) sz rows := by
  rcases h with ⟨rfl, h⟩ | ⟨frz, hz, h⟩
  · exact .inl ⟨rfl, famC_flat h h1 rfl⟩
  · exact .inr ⟨frz, hz, famC_own h h1⟩
theorem kvalHit {x : Fam} {xs : List Fam} (hf : x.f = f) (h : KVal (x.val as) sz rows) : KVal (famLook f as (x :: xs)) sz rows := by
  rcases h with ⟨rfl, h⟩ | ⟨frz, hz, h⟩
  · exact .inl ⟨rfl, famLook_hit hf h⟩
  · exact .inr ⟨frz, hz, famLook_hit hf h⟩
theorem kvalSkip {x : Fam} {xs : List Fam} (hf : Nat.beq x.f f = false) (h : KVal (famLook f as xs) sz rows) : KVal (famLook f as (x :: xs)) sz rows := by
  rw [famLook_miss hf]; exact h
end

/-- A new array leaves the others as they are. -/
theorem push_keep {os : List TO} {sz n ver : Nat} {es : List (List RV)} {v2 f2 : Nat} {c : Option Nat} :
    (∀ sz' u r, Acc os sz' u r → Acc (os ++ [.arr sz es v2 f2]) sz' u r ∧ Sep (.sl os.length 0 n ver c) u ∧ Sep u (.sl os.length 0 n ver c)) ∧ (∀ sz' u r, AccL os sz' u r → AccL (os ++ [.arr sz es v2 f2]) sz' u r ∧ Sep (.sl os.length 0 n ver c) u ∧ Sep u (.sl os.length 0 n ver c)) ∧
      (∀ sz' u r, Rd os sz' u r → Rd (os ++ [.arr sz es v2 f2]) sz' u r ∧ Sep (.sl os.length 0 n ver c) u ∧ Sep u (.sl os.length 0 n ver c)) := by
  have hlt : ∀ {o : Nat} {z : TO}, os[o]? = some z → (os ++ [TO.arr sz es v2 f2])[o]? = some z := fun {o z} hz => by rw [List.getElem?_append_left (get_lt hz)]; exact hz
  refine ⟨fun sz' u r ha => ?_, fun sz' u r ha => ?_, fun sz' u r ha => ?_⟩
  · cases ha with
    | nil => exact ⟨.nil, fun o _ h2 => by simp [objOf] at h2, fun o h2 => by simp [objOf] at h2⟩
    | sl o ver frz r ho hl hz =>
      have := get_lt ho
      exact ⟨.sl o ver frz r (hlt ho) hl hz, fun o' h1 h2 => by simp [objOf] at h1 h2; omega, fun o' h1 h2 => by simp [objOf] at h1 h2; omega⟩
  · cases ha with
    | nil => exact ⟨.nil, fun o _ h2 => by simp [objOf] at h2, fun o h2 => by simp [objOf] at h2⟩
    | lit r hl => exact ⟨.lit r hl, fun o _ h2 => by simp [objOf] at h2, fun o h2 => by simp [objOf] at h2⟩
    | sl o ver frz r ho hl hz =>
      have := get_lt ho
      exact ⟨.sl o ver frz r (hlt ho) hl hz, fun o' h1 h2 => by simp [objOf] at h1 h2; omega, fun o' h1 h2 => by simp [objOf] at h1 h2; omega⟩
  · cases ha with
    | nil => exact ⟨.nil, fun o _ h2 => by simp [objOf] at h2, fun o h2 => by simp [objOf] at h2⟩
    | lst c r hl => exact ⟨.lst c r hl, fun o _ h2 => by simp [objOf] at h2, fun o h2 => by simp [objOf] at h2⟩
    | sl o off ver cap es frz r ho hl he hal hz =>
      have := get_lt ho
      exact ⟨.sl o off ver cap es frz r (hlt ho) hl he hal hz, fun o' h1 h2 => by simp [objOf] at h1 h2; omega, fun o' h1 h2 => by simp [objOf] at h1 h2; omega⟩

theorem callX_keep {P : Program} {cfg : Cfg} {fams : List Fam} {f : Nat} {α : Type} {enc : α → List RV} {sz : Nat} {l : List α} {args as : List TV} {os os1 : List TO} (E : EncOk enc sz) (ha : argsT false (E0 os) args = some (as, E0 os1)) (hk : KVal (famLook f as fams) sz (List.map enc l)) (q : OsOk os1) :
    ∃ v os', callX P cfg (famT fams) f args (E0 os) = some (v, E0 os', none) ∧ Acc os' sz v (List.map enc l) ∧ OsOk os' ∧ SameB os1 os' ∧ (∀ sz' u r, Acc os1 sz' u r → Acc os' sz' u r ∧ Sep v u ∧ Sep u v) ∧ (∀ sz' u r, AccL os1 sz' u r → AccL os' sz' u r ∧ Sep v u ∧ Sep u v) ∧ (∀ sz' u r, Rd os1 sz' u r → Rd os' sz' u r ∧ Sep v u ∧ Sep u v) := by
  rcases hk with ⟨hr, h⟩ | ⟨frz, hz, h⟩
  · refine ⟨nilT, os1, by simp only [callX, orcT, famT, ha, h], by rw [hr]; exact .nil, q, .refl _, fun _ _ _ h => ⟨h, fun o ho => by simp [objOf] at ho, fun o _ ho => by simp [objOf] at ho⟩, fun _ _ _ h => ⟨h, fun o ho => by simp [objOf] at ho, fun o _ ho => by simp [objOf] at ho⟩, fun _ _ _ h => ⟨h, fun o ho => by simp [objOf] at ho, fun o _ ho => by simp [objOf] at ho⟩⟩
  · have hlast : (os1 ++ [TO.arr sz (List.map enc l) 0 frz])[os1.length]? = some (.arr sz (List.map enc l) 0 frz) := by simp
    have hb : SameB os1 (os1 ++ [TO.arr sz (List.map enc l) 0 frz]) := sameB_push (by simp)
    refine ⟨.sl os1.length 0 (List.map enc l).length 0 none, os1 ++ [.arr sz (List.map enc l) 0 frz], by simp only [callX, orcT, famT, ha, h], .sl os1.length 0 frz _ hlast (allLen_map E.len l) hz, q.same hb (eqOs_push q.eq ?_), hb, push_keep.1, push_keep.2.1, push_keep.2.2⟩
    simp only [eqTO, Nat.beq_refl, Bool.and_true, Bool.true_and]; exact eqRows_map E.refl l

/- slices.Clone. -/
def CVal (x : Option KRes) (sz : Nat) (rows : List (List RV)) : Prop := (rows = [] ∧ x = some (.flat (.r (.lst [] none)))) ∨ x = some (.own sz rows 0)
theorem cvalHit {f : Nat} {as : List TV} {sz : Nat} {rows : List (List RV)} {x : Fam} {xs : List Fam} (hf : x.f = f) (h : CVal (x.val as) sz rows) : CVal (famLook f as (x :: xs)) sz rows := by
  rcases h with ⟨rfl, h⟩ | h
  · exact .inl ⟨rfl, famLook_hit hf h⟩
  · exact .inr (famLook_hit hf h)
theorem cvalSkip {f : Nat} {as : List TV} {sz : Nat} {rows : List (List RV)} {x : Fam} {xs : List Fam} (hf : Nat.beq x.f f = false) (h : CVal (famLook f as xs) sz rows) : CVal (famLook f as (x :: xs)) sz rows := by
  rw [famLook_miss hf]; exact h
theorem callX_clone {P : Program} {cfg : Cfg} {fams : List Fam} {f : Nat} {α : Type} {enc : α → List RV} {sz : Nat} {l : List α} {args as : List TV} {os os1 : List TO} (E : EncOk enc sz) (ha : argsT false (E0 os) args = some (as, E0 os1)) (hk : CVal (famLook f as fams) sz (List.map enc l)) (q : OsOk os1) :
    ∃ v os', callX P cfg (famT fams) f args (E0 os) = some (v, E0 os', none) ∧ Rd os' sz v (List.map enc l) ∧ OsOk os' ∧ SameB os1 os' ∧ (∀ sz' u r, Acc os1 sz' u r → Acc os' sz' u r ∧ Sep v u ∧ Sep u v) ∧ (∀ sz' u r, AccL os1 sz' u r → AccL os' sz' u r ∧ Sep v u ∧ Sep u v) ∧ (∀ sz' u r, Rd os1 sz' u r → Rd os' sz' u r ∧ Sep v u ∧ Sep u v) ∧ (l ≠ [] → Acc os' sz v (List.map enc l)) := by
  rcases hk with ⟨hr, h⟩ | h
  · refine ⟨.r (.lst [] none), os1, by simp only [callX, orcT, famT, ha, h], by rw [hr]; exact .lst _ _ rfl, q, .refl _, fun _ _ _ h => ⟨h, fun o ho => by simp [objOf] at ho, fun o _ ho => by simp [objOf] at ho⟩, fun _ _ _ h => ⟨h, fun o ho => by simp [objOf] at ho, fun o _ ho => by simp [objOf] at ho⟩, fun _ _ _ h => ⟨h, fun o ho => by simp [objOf] at ho, fun o _ ho => by simp [objOf] at ho⟩, fun hl => (hl (by simpa using hr)).elim⟩
  · have hlast : (os1 ++ [TO.arr sz (List.map enc l) 0 0])[os1.length]? = some (.arr sz (List.map enc l) 0 0) := by simp
    have hb : SameB os1 (os1 ++ [TO.arr sz (List.map enc l) 0 0]) := sameB_push (by simp)
    have hA : Acc (os1 ++ [TO.arr sz (List.map enc l) 0 0]) sz (.sl os1.length 0 (List.map enc l).length 0 none) (List.map enc l) := .sl os1.length 0 0 _ hlast (allLen_map E.len l) (Nat.zero_le _)
    refine ⟨.sl os1.length 0 (List.map enc l).length 0 none, os1 ++ [.arr sz (List.map enc l) 0 0], by simp only [callX, orcT, famT, ha, h], hA.rd, q.same hb (eqOs_push q.eq ?_), hb, push_keep.1, push_keep.2.1, push_keep.2.2, fun _ => hA⟩
    simp only [eqTO, Nat.beq_refl, Bool.and_true, Bool.true_and]; exact eqRows_map E.refl l
/-- What slices.Clone answers, told of its three ways. -/
def cloneF (f sz bytes : Nat) : Fam := ⟨f, fun as => match as with
  | [.r (.lst [] none)] => some (.flat (.r (.lst [] none)))
  | [.r (.lst (x :: xs) none)] => cond (Nat.ble ((xs.length + 1) * bytes) roomT && Nat.ble (xs.length + 1) roomT && allLen sz (x :: xs) && (x :: xs).all (fun e => e.all okR)) (some (.own sz (x :: xs) 0)) none
  | _ => none⟩
theorem cloneF_val {α : Type} {enc : α → List RV} {f sz bytes : Nat} {l z : List α} (E : EncOk enc sz) (h : appO bytes ([] : List α) l = some z) : CVal ((cloneF f sz bytes).val [.r (.lst (List.map enc l) none)]) sz (List.map enc z) := by
  obtain ⟨rfl, h1, h2⟩ := appO_some h
  cases z with
  | nil => exact .inl ⟨rfl, rfl⟩
  | cons x xs =>
    refine .inr ?_
    simp only [List.length_nil, Nat.zero_add, List.length_cons] at h1 h2
    have e1 : Nat.ble (((List.map enc xs).length + 1) * bytes) roomT = true := Nat.ble_eq_true_of_le (by simpa using h1)
    have e2 : Nat.ble ((List.map enc xs).length + 1) roomT = true := Nat.ble_eq_true_of_le (by simpa using h2)
    have e3 := allLen_map E.len (x :: xs)
    have e4 := allOk_map E.ok (x :: xs)
    simp only [List.map_cons] at e3 e4
    simp only [cloneF, List.map_cons, e1, e2, e3, e4, Bool.and_self, cond_true]
theorem cloneF_good {P : Program} {cfg : Cfg} {f sz bytes : Nat} (hs : ∀ {orc : CallF}, CallSound P orc → ∀ n, CallSound P (callT P cfg orc n))
    (h0 : callL P cfg (famT []) f [nilT] (E0 []) = some (nilT, E0 [], none)) (h1 : ∀ (a : Addr) (c : Nat), callL P cfg (famT []) f [.r (.sc (.slice (some a) 0 c))] (E0 []) = some (.r (.lst [] none), E0 [], none))
    (h2 : ∀ x xs, appendX (E0 []) sz bytes (.r (.lst [] (some 0))) (.r (.lst (x :: xs) none)) = some ⟨.sl 0 0 (xs.length + 1) 0 none, .push 0 [] (.arr sz (x :: xs) 0 0)⟩ → callL P cfg (famT []) f [.r (.lst (x :: xs) none)] (E0 []) = some (.sl 0 0 (xs.length + 1) 0 none, E0 [.arr sz (x :: xs) 0 0], none)) :
    (cloneF f sz bytes).Good P := by
  have hcs : CallSound P (callL P cfg (famT [])) := callL_sound fun n => hs (famT_sound goods0) n
  intro as r hr
  simp only [cloneF] at hr
  split at hr
  · cases hr
    refine good_empty (x1 := nilT) (fun w g os v h => ?_) (known_of (k := ⟨f, [nilT], nilT⟩) hcs h0 rfl rfl) (fun a c => known_of (k := ⟨f, [.r (.sc (.slice (some a) 0 c))], .r (.lst [] none)⟩) hcs (h1 a c) rfl rfl)
    have h : RRep w g.I v (.sc (.slice none 0 0)) := h
    cases h
    exact RRep.nil none (by simp)
  · rename_i x xs
    obtain ⟨hb, hr⟩ := condT hr
    cases hr
    simp only [Bool.and_eq_true] at hb
    obtain ⟨⟨⟨e1, e2⟩, e3⟩, e4⟩ := hb
    have := h2 x xs (appendX_copy1 (Nat.le_of_ble_eq_true e1) (Nat.le_of_ble_eq_true e2) e3 e4)
    exact lift_keep hcs this rfl
  · cases hr
end Go.TL
/- Plain laws of printed functions: loops over lists, functions that always answer. -/
namespace Go.TL

def Tot {α : Type} (o : Option α) : Prop := ∃ r, o = some r
theorem Tot.mk {α : Type} (a : α) : Tot (some a) := ⟨a, rfl⟩
theorem Tot.bind {α β : Type} {o : Option α} {g : α → Option β} (h : Tot o) (k : ∀ y, o = some y → Tot (g y)) : Tot (o.bind g) := by
  obtain ⟨y, hy⟩ := h
  rw [hy]; exact k y hy
theorem Tot.ite {α : Type} {c : Prop} [Decidable c] {a b : Option α} (h1 : c → Tot a) (h2 : ¬ c → Tot b) : Tot (if c then a else b) := by
  split
  · exact h1 ‹_›
  · exact h2 ‹_›
theorem Tot.sumK {α β γ : Type} {x : α ⊕ β} {f : α → Option γ} {g : β → Option γ} (h1 : ∀ a, x = .inl a → Tot (f a)) (h2 : ∀ b, x = .inr b → Tot (g b)) : Tot (Go.TL.sumK x f g) := by
  cases x with
  | inl a => exact h1 a rfl
  | inr b => exact h2 b rfl
theorem w64_id {n : Int} (h1 : -9223372036854775808 ≤ n) (h2 : n ≤ 9223372036854775807) : w64 n = n := wrap_id h1 h2
theorem w64_succ {i : Nat} (h : i < 9223372036854775807) : w64 ((i : Int) + 1) = ((i + 1 : Nat) : Int) := by rw [w64_id] <;> omega
theorem at_lt {α : Type} {l : List α} {i : Nat} (h : i < l.length) : ∃ a, at_ l (i : Int) = some a ∧ l[i]? = some a := ⟨l[i], by rw [at_nat]; simp [h], by simp [h]⟩
theorem Tot.at_ {α : Type} {l : List α} {i : Int} (h0 : 0 ≤ i) (h : i < l.length) : Tot (at_ l i) := by
  obtain ⟨n, rfl⟩ := Int.eq_ofNat_of_zero_le h0
  obtain ⟨a, ha, _⟩ := at_lt (l := l) (i := n) (by omega)
  exact ⟨a, ha⟩
theorem Tot.appO {α : Type} {bytes : Nat} {xs ys : List α} (h : (xs.length + ys.length) * bytes ≤ 1099511627776) (hb : 1 ≤ bytes) : Tot (appO bytes xs ys) := ⟨_, appO_ok h hb⟩

section
variable {ρ : Type} {body : Int → Option (Int ⊕ ρ)}
/-- A loop that counts: it ends. -/
theorem loopI_tot (m n : Nat) (h1 : ∀ i : Nat, m ≤ i → i ≤ n → Tot (body i)) (h2 : ∀ (i : Nat) j, m ≤ i → i ≤ n → body i = some (.inl j) → i < n ∧ j = ((i + 1 : Nat) : Int)) : ∀ (k i : Nat), m ≤ i → i + k = n → Tot (loopO body (i : Int))
  | k, i, hm, hk => by
    obtain ⟨x, hx⟩ := h1 i hm (by omega)
    cases x with
    | inr r => exact ⟨r, loopO_done hx⟩
    | inl j =>
      obtain ⟨h3, rfl⟩ := h2 i j hm (by omega) hx
      cases k with
      | zero => omega
      | succ k =>
        obtain ⟨r, hr⟩ := loopI_tot m n h1 h2 k (i + 1) (by omega) (by omega)
        exact ⟨r, by rw [loopO_step hx, hr]⟩
theorem loopI0_tot (n : Nat) (h1 : ∀ i : Nat, i ≤ n → Tot (body i)) (h2 : ∀ (i : Nat) j, i ≤ n → body i = some (.inl j) → i < n ∧ j = ((i + 1 : Nat) : Int)) : Tot (loopO body 0) := loopI_tot 0 n (fun i _ => h1 i) (fun i j _ => h2 i j) n 0 (by omega) (by omega)
end

theorem drop_get {α : Type} {l : List α} {i : Nat} {a : α} (h : l[i]? = some a) : l.drop i = a :: l.drop (i + 1) := by
  obtain ⟨hi, ha⟩ := List.getElem?_eq_some_iff.1 h
  rw [List.drop_eq_getElem_cons hi, ha]
/-- A fold that may end early. -/
def foldE {σ α ρ : Type} (step : σ → α → σ ⊕ ρ) (fin : σ → ρ) : List α → σ → ρ
  | [], s => fin s
  | a :: l, s => match step s a with | .inl s' => foldE step fin l s' | .inr r => r
def stepK {σ τ ρ : Type} (f : σ → τ) : σ ⊕ ρ → τ ⊕ ρ
  | .inl s => .inl (f s)
  | .inr r => .inr r
section
variable {σ τ α ρ : Type} {body : τ → Option (τ ⊕ ρ)}
/-- A loop over a list. -/
theorem loopO_fold {l : List α} {st : Nat → σ → τ} {step : σ → α → σ ⊕ ρ} {fin : σ → ρ} (I : Nat → σ → Prop)
    (hs : ∀ i a s, l[i]? = some a → I i s → body (st i s) = some (stepK (st (i + 1)) (step s a)) ∧ ∀ s', step s a = .inl s' → I (i + 1) s')
    (he : ∀ s, I l.length s → body (st l.length s) = some (.inr (fin s))) : ∀ (k i : Nat) (s : σ), i + k = l.length → I i s → loopO body (st i s) = some (foldE step fin (l.drop i) s)
  | 0, i, s, hk, hI => by
    have : i = l.length := by omega
    subst this
    rw [List.drop_length, foldE]
    exact loopO_done (he s hI)
  | k + 1, i, s, hk, hI => by
    have hi : i < l.length := by omega
    have hg : l[i]? = some l[i] := by simp [hi]
    obtain ⟨h1, h2⟩ := hs i l[i] s hg hI
    rw [List.drop_eq_getElem_cons hi, foldE]
    cases hstep : step s l[i] with
    | inr r => rw [hstep] at h1; exact loopO_done h1
    | inl s' =>
      rw [hstep] at h1
      rw [loopO_step h1]
      exact loopO_fold I hs he k (i + 1) s' (by omega) (h2 s' hstep)
theorem loopO_fold0 {l : List α} {st : Nat → σ → τ} {step : σ → α → σ ⊕ ρ} {fin : σ → ρ} (I : Nat → σ → Prop)
    (hs : ∀ i a s, l[i]? = some a → I i s → body (st i s) = some (stepK (st (i + 1)) (step s a)) ∧ ∀ s', step s a = .inl s' → I (i + 1) s')
    (he : ∀ s, I l.length s → body (st l.length s) = some (.inr (fin s))) {s : σ} (h0 : I 0 s) : loopO body (st 0 s) = some (foldE step fin l s) := by
  have := loopO_fold I hs he l.length 0 s (by omega) h0
  simpa using this
end
end Go.TL
/- Arguments that are slices or numbers. -/
namespace Go.TL
/-- The tree of an argument of one cell. -/
theorem arg_slice {P : Program} {H : Type} {enc : TypeId × Value → H} {spare : Nat → Bool} {held : Bool} {w : World} {n : Nat} {t : TypeId} {v : Value} {a : Option Addr} {l c : Nat} {d : DataW H} {ps : List MemPlace} {L : Nat} (hp : plainTy P n t = true)
    (hv : v = .slice a l c) (h : DataW.Trod enc P w 0 spare held t v d ps) (hb : bulkD d ≤ L) : ∃ m x, Shape P L m t [x] ∧ ARep w (g0 w) [] v (.r x) := by
  obtain ⟨fuel, hf⟩ := h
  subst hv
  have hf' := DataW.trod_le (Nat.le_max_left fuel n) hf
  obtain ⟨xs, h1, h2⟩ := trod_rep (max fuel n) t _ _ (plainTy_le hp (Nat.le_max_right _ _)) hf' hb
  have hcells : (Value.slice a l c).cells.toList = [Value.slice a l c] := rfl
  rw [hcells] at h1
  cases h1 with
  | cons hr ht =>
    cases ht
    exact ⟨_, _, h2, fun _ => hr⟩
theorem ints_shape {P : Program} {L m : Nat} {t e : TypeId} {x : RV} (hs : P.underlying t = some (.slice e)) (hi : P.underlying e = some (.int .i64)) (h : Shape P L m t [x]) : ∃ l : List Int, x = .lst (List.map int1 l) none ∧ l.length ≤ L ∧ ∀ d, d ∈ l → inR d := by
  obtain ⟨es, h1, h2, h3⟩ := shape_slice hs h
  simp only [List.cons.injEq, and_true] at h1
  subst h1
  obtain ⟨l, rfl, hl⟩ := list_dec (enc := int1) (ok := inR) (fun el he => by
    obtain ⟨m', hm'⟩ := h3 el he
    obtain ⟨v, hv, h1⟩ := shape_int hi hm'
    exact ⟨v, hv, h1⟩)
  exact ⟨l, rfl, by simpa using h2, hl⟩
end Go.TL
