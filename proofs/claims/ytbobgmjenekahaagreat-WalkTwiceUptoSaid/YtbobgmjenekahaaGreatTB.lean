/- Reading and writing through addresses. -/
import Derived.Test.YtbobgmjenekahaaGreatTA
import Derived.Laws.BitsLemmas
import Derived.Laws.Append
set_option linter.unusedVariables false
set_option linter.unusedSimpArgs false
namespace Go.TL

section
variable {P : Program} {w : World} {g : G} {os : List TO} {fr : Tr} {lv : Nat → Nat}

/-- The values of cells that stand for these. -/
theorem cells_vals {I : Nat → Nat → Prop} {B : Nat} {Q : Nat → Value → Prop} : ∀ {cs : List RV} {p : Nat}, (∀ (j : Nat) (x : RV), cs[j]? = some x → ∃ v, Q (p + j) v ∧ RRep w I v x) →
    ∃ vs, F2 (RRep w I) vs cs ∧ ∀ (j : Nat) (v : Value), vs[j]? = some v → Q (p + j) v
  | [], p, _ => ⟨[], .nil, fun j v h => by simp at h⟩
  | c :: cs, p, h => by
    obtain ⟨v, h1, h2⟩ := h 0 c rfl
    obtain ⟨vs, h3, h4⟩ := cells_vals (I := I) (B := B) (Q := Q) (cs := cs) (p := p + 1) (fun j x hx => by
      have := h (j + 1) x (by simpa using hx)
      rwa [show p + 1 + j = p + (j + 1) by omega])
    refine ⟨v :: vs, .cons h2 h3, fun j u hu => ?_⟩
    cases j with
    | zero => simp at hu; subst hu; exact h1
    | succ j => rw [show p + (j + 1) = p + 1 + j by omega]; exact h4 j u (by simpa using hu)

theorem F2.rmap {vs : List Value} {cs : List RV} (h : F2 (RRep w g.I) vs cs) : F2 (CRep w g os) vs (cs.map .r) := by
  induction h with
  | nil => exact .nil
  | cons h _ ih => exact .cons h ih

theorem run_load_cells {ty : Nat} {ti : TyI} {inf : TypeInfo} {u : TypeDesc} {z : Value} (G : TyGood P ty ti inf u z) {B p off : Nat} {vs : List Value} {ts : List TV} {t : TV}
    (hc : ∀ (j : Nat) (v : Value), vs[j]? = some v → ca w B (p + j) = some v) (h : F2 (CRep w g os) vs ts) (ht : partC ti.size ti.ag ts off = some t) :
    ∃ v, (loadVar ty ⟨B, p + off, none⟩).run P w = .ok v w ∧ OpRep w g os fr lv v t := by
  rcases partC_rep (fr := fr) (lv := lv) h ht with ⟨h1, h2, h3⟩ | ⟨h1, y, h2, h3, h4⟩
  · refine ⟨_, ?_, h3⟩
    have hl : ((vs.drop off).take ti.size).length = ti.size := by simp; omega
    have hrun := run_loadCells_list (P := P) w ⟨B, p + off, none⟩ ((vs.drop off).take ti.size) (fun j v hv => by
      rw [addr_add]
      rw [List.getElem?_take] at hv
      split at hv
      · rw [List.getElem?_drop] at hv
        rw [Nat.add_assoc]
        exact hc _ _ hv
      · cases hv)
    rw [hl] at hrun
    simp [loadVar, G.run_agg, h1, G.run_size, hrun]
  · refine ⟨y, ?_, C_Op h4⟩
    have := hc _ _ h2
    simp only [ca] at this
    simp [loadVar, G.run_agg, h1, this]

end

section
variable {P : Program} {a : Act} {o : Oper} {w : World} {g : G} {S : TS} {fr : Tr} {lv : Nat → Nat} {b0 : Nat} {loc : List Nat} {ops : List Oper}
  (hs : SRep w g S.objs) (hF : FRep w g S.objs b0 loc ops fr a.tmps lv)
include hs hF

theorem op_load {t : Nat} {x : Operand} {ti : TyI} {r : Out} (ho : o.op = .load t x) (hty : mkTy P t = some ti) (h : loadT fr S ti.size ti.ag (operand fr x) = some r) : OpPost P a o w g S fr lv r := by
  obtain ⟨inf, u, z, G⟩ := mkTy_spec hty
  have hv := hF.operand x
  have key : ∀ (B p : Nat) (v : Value) (tv : TV) (e : Eff), a.eval x = .pointer (some ⟨B, p, none⟩) → (e.S S).objs = S.objs → (loadVar t ⟨B, p, none⟩).run P w = .ok v w → OpRep w g S.objs fr lv v tv → OpPost P a o w g S fr lv ⟨tv, e⟩ := by
    intro B p v tv e hx he hrun hr
    refine post_same hs he ?_ hr
    simp [execOp, ho, hx, Instr.loadAt, Instr.sureAddr, hrun]
  unfold loadT at h
  split at h
  · rename_i d off hx
    rw [hx] at hv
    split at h
    · rename_i cs hd
      simp only [Option.map_eq_some_iff] at h
      obtain ⟨tv, ht, rfl⟩ := h
      have hsl := hF.val d
      rw [hd] at hsl
      obtain ⟨_, ⟨C, e, h1, h2, h3⟩, _⟩ := hsl
      obtain ⟨v, hr1, hr2⟩ := run_load_cells (fr := fr) (lv := lv) (w := w) G (B := lv d) (p := 0) (fun j v hv => by simp [ca, World.cell?, h1]; simpa using hv) h2 ht
      rw [Nat.zero_add] at hr1
      exact key _ _ v tv _ hv.1 rfl hr1 hr2
    · cases h
  · rename_i cs off hx
    rw [hx] at hv
    obtain ⟨b, p, h1, cv, h2⟩ := hv
    simp only [Option.map_eq_some_iff] at h
    obtain ⟨tv, ht, rfl⟩ := h
    obtain ⟨vs, h3, h4⟩ := cells_vals (w := w) (I := g.I) (B := b) (Q := fun k v => ca w b k = some v) (cs := cs) (p := p) (fun j x hx => ⟨cv j, (h2 j x hx).1, (h2 j x hx).2.2⟩)
    obtain ⟨v, hr1, hr2⟩ := run_load_cells (fr := fr) (lv := lv) (os := S.objs) G h4 h3.rmap ht
    exact key _ _ v tv _ h1 rfl hr1 hr2
  · rename_i p off hx
    rw [hx] at hv
    split at h
    · rename_i cs hp
      simp only [Option.map_eq_some_iff] at h
      obtain ⟨tv, ht, rfl⟩ := h
      obtain ⟨C, e, h1, h2, h3⟩ := hs.obj p _ hp
      obtain ⟨v, hr1, hr2⟩ := run_load_cells (fr := fr) (lv := lv) (w := w) G (B := g.mu p) (p := 0) (fun j v hv => by simp [ca, World.cell?, h1]; simpa using hv) h2 ht
      rw [Nat.zero_add] at hr1
      exact key _ _ v tv _ hv.1 rfl hr1 hr2
    · cases h
  · rename_i p idx off ver hx
    rw [hx] at hv
    split at h
    · rename_i sz es w2 fz hp
      cases hb : Nat.beq w2 ver <;> rw [hb] at h
      · cases h
      · simp only [cond_true] at h
        have hb := Nat.eq_of_beq_eq_true hb
        subst hb
        split at h
        · rename_i cs hcs
          simp only [Option.map_eq_some_iff] at h
          obtain ⟨tv, ht, rfl⟩ := h
          obtain ⟨q, sz', es', w3, fz', e1, e2, e3, e4⟩ := hv
          rw [hp] at e2
          simp only [Option.some.injEq, TO.arr.injEq] at e2
          obtain ⟨rfl, rfl, rfl, rfl⟩ := e2
          obtain ⟨_, rfl⟩ := e4 rfl
          obtain ⟨C, e, k1, k2, k3, k4, k5, k6, k7⟩ := hs.obj p _ hp
          obtain ⟨vs, h3, h4⟩ := cells_vals (w := w) (I := g.I) (B := g.mu p) (Q := fun k v => ca w (g.mu p) k = some v) (cs := cs) (p := g.sh p + idx * sz) (fun j x hx => by
            obtain ⟨v, h5, h6⟩ := k5 idx cs j x hcs hx
            refine ⟨v, ?_, h6⟩
            simp [ca, World.cell?, k1, Nat.add_assoc, h5])
          obtain ⟨v, hr1, hr2⟩ := run_load_cells (fr := fr) (lv := lv) (os := S.objs) G h4 h3.rmap ht
          rw [Nat.add_assoc] at hr1
          exact key _ _ v tv _ e1 rfl hr1 hr2
        · cases h
    · cases h
  · cases h

omit hs hF in
theorem run_storeAt {ty : Nat} {ti : TyI} {inf : TypeInfo} {u : TypeDesc} {z : Value} (G : TyGood P ty ti inf u z) {B p : Nat} {C : Array Value} {e : TypeId} {v : Value} (hb : w.heap[B]? = some (.cells C e (0, 0)))
    (hn : v.cells.size = ti.size) (hfit : p + ti.size ≤ C.size) (hok : ∀ x ∈ v.cells.toList, okV x = true) :
    (Instr.storeAt ty (.pointer (some ⟨B, p, none⟩)) v).run P w = .ok () (w.setRow B (C.toList.take p ++ v.cells.toList ++ C.toList.drop (p + ti.size)).toArray) := by
  have := run_storeCells_at P B p e v.cells.toList 0 C w hb (by simpa [hn] using hfit) (fun x hx => okV_one (hok x hx))
  simp only [Nat.add_zero, Array.length_toList, hn] at this
  simp [Instr.storeAt, Instr.sureAddr, storeVar, G.run_size, hn, this]

theorem op_store_ptr {t : Nat} {x y : Operand} {ti : TyI} {p off : Nat} {cs : List TV} {lk : Bool} {tc : Option Nat} (ho : o.op = .store t x y) (hty : mkTy P t = some ti) (hx : operand fr x = .ptr p off) (hp : S.objs[p]? = some (.box cs))
    (hlen : (operand fr y).cells.length = ti.size) (hall : (operand fr y).cells.all okCell = true) (hfit : off + ti.size ≤ cs.length) :
    OpPost P a o w g S fr lv ⟨.und, .wr [] [p] ⟨S.objs.set p (.box (cs.take off ++ (operand fr y).cells ++ cs.drop (off + ti.size))), lk, tc⟩⟩ := by
  obtain ⟨inf, u, z, G⟩ := mkTy_spec hty
  have hv := hF.operand x
  rw [hx] at hv
  obtain ⟨hv1, _⟩ := hv
  obtain ⟨C, e, h1, h2, h3⟩ := hs.obj p _ hp
  obtain ⟨c1, c2⟩ := cells_rep (hF.operand y) hall
  have l1 := c1.length
  have l2 := h2.length
  simp only [Array.length_toList] at l1 l2
  have hrun := run_storeAt (P := P) G h1 (v := a.eval y) (by omega) (p := off) (by omega) c2
  have hB : g.mu p < w.heap.size := (hs.obj p _ hp).lt
  obtain ⟨x1, x2⟩ := SRep.set (w' := w.setRow (g.mu p) (C.toList.take off ++ (a.eval y).cells.toList ++ C.toList.drop (off + ti.size)).toArray) (x' := .box (cs.take off ++ (operand fr y).cells ++ cs.drop (off + ti.size))) hs hp
    (by simp [OExt]; omega) ⟨rfl, rfl, rfl⟩ (by simp) (fun b hb => setRow_other _ _ _ _ hb) (fun i hi => absurd hi (h3 i)) (fun hca hO => by
      refine ⟨_, e, setRow_heap _ _ _ _ _ _ h1, ?_, h3⟩
      have m := fun v t => CRep.mono (w := w) (g := g) (os := S.objs) (v := v) (t := t) (fun b i hi => ⟨hi, hca b i hi⟩) hO
      exact ((((h2.imp m).take off).append (c1.imp m)).append ((h2.imp m).drop (off + ti.size))))
  exact ⟨undef, _, g, .inr ⟨by simp [execOp, ho, hv1, hrun], rfl⟩, x1, x2, trivial⟩

theorem op_store_ap {t : Nat} {x y : Operand} {ti : TyI} {p idx off ver sz frz : Nat} {es : List (List RV)} {cs : List RV} {xs : List RV} {S1 : TS} (ho : o.op = .store t x y) (hty : mkTy P t = some ti) (hx : operand fr x = .ap p idx off ver)
    (hlen : (operand fr y).cells.length = ti.size) (hall : (operand fr y).cells.all okCell = true) (hfz : freezeL S (operand fr y).cells = some (xs, S1)) (hp : S1.objs[p]? = some (.arr sz es ver frz)) (hidx : frz ≤ idx)
    (hcs : es[idx]? = some cs) (hfit : off + ti.size ≤ cs.length) :
    OpPost P a o w g S fr lv ⟨.und, .wr [] (p :: (operand fr y).sls) (S1.put p (.arr sz (es.set idx (cs.take off ++ xs ++ cs.drop (off + ti.size))) ver frz))⟩ := by
  obtain ⟨inf, u, z, G⟩ := mkTy_spec hty
  obtain ⟨c1, c2⟩ := cells_rep (hF.operand y) hall
  obtain ⟨g1, x1, s1, r1, m1, n1, q1⟩ := freezeL_rep hs c1 hfz
  have hv := OpRep.ext (fr := fr) (lv := lv) x1.imm x1.obj (hF.operand x)
  rw [hx] at hv
  obtain ⟨q, sz', es', w3, fz', e1, e2, e3, e4⟩ := hv
  rw [hp] at e2
  simp only [Option.some.injEq, TO.arr.injEq] at e2
  obtain ⟨rfl, rfl, rfl, rfl⟩ := e2
  obtain ⟨_, rfl⟩ := e4 rfl
  obtain ⟨C, e, k1, k2, k3, k4, k5, k6, k7⟩ := s1.obj p _ hp
  have l1 := c1.length
  have l2 := r1.length
  simp only [Array.length_toList] at l1 l2
  have hcl : cs.length = sz := k4 idx cs hcs
  have hil := get_lt hcs
  have hend : g1.sh p + (idx * sz + sz) ≤ C.size := by
    refine Nat.le_trans (Nat.add_le_add_left ?_ _) k3
    have := Nat.mul_le_mul_right sz (show idx + 1 ≤ es.length from hil)
    rw [Nat.add_mul] at this; omega
  have hrun := run_storeAt (P := P) G k1 (v := a.eval y) (by omega) (p := g1.sh p + (idx * sz + off)) (by omega) c2
  have hC' : ∀ k, (C.toList.take (g1.sh p + (idx * sz + off)) ++ (a.eval y).cells.toList ++ C.toList.drop (g1.sh p + (idx * sz + off) + ti.size))[k]? =
      if k < g1.sh p + (idx * sz + off) then C[k]? else if k < g1.sh p + (idx * sz + off) + ti.size then (a.eval y).cells.toList[k - (g1.sh p + (idx * sz + off))]? else C[k]? := by
    intro k
    have hm : min (g1.sh p + (idx * sz + off)) C.size = g1.sh p + (idx * sz + off) := by omega
    simp only [List.getElem?_append, List.getElem?_take, List.getElem?_drop, List.length_append, List.length_take, Array.length_toList, hm]
    by_cases c1 : k < g1.sh p + (idx * sz + off)
    · rw [if_pos (by omega), if_pos c1, if_pos c1, if_pos c1]; simp
    · by_cases c2 : k < g1.sh p + (idx * sz + off) + ti.size
      · rw [if_pos (by omega), if_neg c1, if_neg c1, if_pos c2]
      · rw [if_neg (by omega), if_neg c1, if_neg c2]
        rw [show g1.sh p + (idx * sz + off) + ti.size + (k - (g1.sh p + (idx * sz + off) + (a.eval y).cells.size)) = k by omega]; simp
  generalize hC1 : (C.toList.take (g1.sh p + (idx * sz + off)) ++ (a.eval y).cells.toList ++ C.toList.drop (g1.sh p + (idx * sz + off) + ti.size)) = C1 at hrun hC'
  have hC1l : C1.length = C.size := by rw [← hC1]; simp; omega
  have hrow := setRow_heap w (g1.mu p) C C1.toArray e (0, 0) k1
  have hB : g1.mu p < w.heap.size := (s1.obj p _ hp).lt
  have hout : ∀ k, (k < g1.sh p + idx * sz ∨ g1.sh p + (idx * sz + sz) ≤ k) → C1[k]? = C[k]? := by
    intro k hk
    rw [hC' k]
    rcases hk with hk | hk
    · rw [if_pos (by omega)]
    · rw [if_neg (by omega), if_neg (by omega)]
  have hI : ∀ i, g1.I (g1.mu p) i → ca (w.setRow (g1.mu p) C1.toArray) (g1.mu p) i = ca w (g1.mu p) i := by
    intro i hi
    have := k6 i hi
    simp only [ca, World.cell?, hrow, k1]
    have hle := Nat.mul_le_mul_right sz hidx
    simpa using hout i (.inl (by omega))
  obtain ⟨x2, s2⟩ := SRep.set (w' := w.setRow (g1.mu p) C1.toArray) (x' := .arr sz (es.set idx (cs.take off ++ xs ++ cs.drop (off + ti.size))) ver frz) s1 hp
    (by simp [OExt]) ⟨rfl, rfl, rfl⟩ (by simp) (fun b hb => setRow_other _ _ _ _ hb) hI (fun hca hO => by
      have hI' : ∀ b i, g1.I b i → g1.I b i ∧ ca (w.setRow (g1.mu p) C1.toArray) b i = ca w b i := fun b i hi => ⟨hi, hca b i hi⟩
      refine ⟨_, e, hrow, by simp [hC1l, k2], by simp [hC1l]; exact k3, fun i el hel => ?_, fun i el j x hel hx => ?_, k6, by simpa using k7⟩
      · by_cases hi : idx = i
        · subst hi
          simp [hil] at hel; subst hel
          simp; omega
        · rw [List.getElem?_set_ne hi] at hel; exact k4 i el hel
      · by_cases hi : idx = i
        · subst hi
          simp [hil] at hel; subst hel
          have hj : j < sz := by have := get_lt hx; simp at this; omega
          simp only [List.getElem?_append, List.getElem?_take, List.getElem?_drop, List.length_append, List.length_take] at hx
          have hm : min off cs.length = off := by omega
          rw [hm] at hx
          simp only [List.getElem?_toArray, hC']
          by_cases j1 : j < off
          · rw [if_pos (by omega), if_pos j1] at hx
            rw [if_pos (by omega)]
            obtain ⟨v, h5, h6⟩ := k5 idx cs j x hcs hx
            exact ⟨v, h5, h6.mono hI'⟩
          · by_cases j2 : j < off + ti.size
            · rw [if_neg (by omega), if_pos (by omega)] at hx
              rw [if_neg (by omega), if_pos (by omega)]
              obtain ⟨v, h5, h6⟩ := r1.get _ x hx
              refine ⟨v, ?_, h6.mono hI'⟩
              rw [← h5]; congr 1; omega
            · rw [if_neg (by omega), if_neg (by omega)] at hx
              rw [if_neg (by omega), if_neg (by omega)]
              obtain ⟨v, h5, h6⟩ := k5 idx cs j x hcs (by rw [← hx]; congr 1; omega)
              exact ⟨v, h5, h6.mono hI'⟩
        · rw [List.getElem?_set_ne hi] at hel
          obtain ⟨v, h5, h6⟩ := k5 i el j x hel hx
          refine ⟨v, ?_, h6.mono hI'⟩
          have hj : j < sz := by rw [← k4 i el hel]; exact get_lt hx
          rw [List.getElem?_toArray, hout _ ?_]
          · exact h5
          · rcases Nat.lt_or_gt_of_ne hi with hlt | hgt
            · right
              have := Nat.mul_le_mul_right sz (show idx + 1 ≤ i from hlt)
              rw [Nat.add_mul] at this; omega
            · left
              have := Nat.mul_le_mul_right sz (show i + 1 ≤ idx from hgt)
              rw [Nat.add_mul] at this; omega)
  exact ⟨undef, _, g1, .inr ⟨by simp [execOp, ho, e1, hrun], rfl⟩, x1.trans x2, s2, trivial⟩

end
end Go.TL
/- New objects: variables, maps, rows; literals of slices. -/
namespace Go.TL

theorem flat_get {α : Type} {sz : Nat} : ∀ {es : List (List α)}, (∀ (i : Nat) (e : List α), es[i]? = some e → e.length = sz) → ∀ (i j : Nat) (e : List α), es[i]? = some e → j < sz → es.flatten[i * sz + j]? = e[j]?
  | [], _, i, j, e, he, _ => by simp at he
  | x :: es, h, i, j, e, he, hj => by
    have hx := h 0 x rfl
    cases i with
    | zero =>
      simp at he; subst he
      rw [List.flatten_cons, Nat.zero_mul, Nat.zero_add, List.getElem?_append_left (by omega)]
    | succ i =>
      rw [List.flatten_cons, List.getElem?_append_right (by rw [Nat.add_mul]; omega), hx]
      rw [show (i + 1) * sz + j - sz = i * sz + j by rw [Nat.add_mul]; omega]
      exact flat_get (es := es) (fun k e he => h (k + 1) e (by simpa using he)) i j e (by simpa using he) hj

theorem flat_len {α : Type} {sz : Nat} : ∀ {es : List (List α)}, (∀ (i : Nat) (e : List α), es[i]? = some e → e.length = sz) → es.flatten.length = es.length * sz
  | [], _ => by simp
  | x :: es, h => by
    have hx := h 0 x rfl
    have := flat_len (es := es) (fun k e he => h (k + 1) e (by simpa using he))
    simp [this, hx, Nat.add_mul]; omega

theorem allLen_spec {n : Nat} {es : List (List RV)} (h : allLen n es = true) : ∀ (i : Nat) (e : List RV), es[i]? = some e → e.length = n := by
  intro i e he
  simp only [allLen, List.all_eq_true] at h
  exact Nat.eq_of_beq_eq_true (h e (List.mem_of_getElem? he))

/-- The values of a row that stands for these. -/
theorem row_vals {I : Nat → Nat → Prop} {w : World} {sz : Nat} {Q : Nat → Value → Prop} : ∀ {es : List (List RV)} {p : Nat}, (∀ (i : Nat) (e : List RV), es[i]? = some e → e.length = sz) →
    (∀ (i : Nat) (e : List RV) (j : Nat) (x : RV), es[i]? = some e → e[j]? = some x → ∃ v, Q (p + (i * sz + j)) v ∧ RRep w I v x) →
    ∃ vs, F2 (RRep w I) vs es.flatten ∧ ∀ (j : Nat) (v : Value), vs[j]? = some v → Q (p + j) v
  | [], p, _, _ => ⟨[], .nil, fun j v h => by simp at h⟩
  | e :: es, p, hl, h => by
    obtain ⟨v1, a1, a2⟩ := cells_vals (w := w) (I := I) (B := 0) (Q := Q) (cs := e) (p := p) (fun j x hx => by
      have := h 0 e j x rfl hx
      rwa [Nat.zero_mul, Nat.zero_add] at this)
    obtain ⟨v2, b1, b2⟩ := row_vals (w := w) (I := I) (sz := sz) (Q := Q) (es := es) (p := p + sz) (fun i e he => hl (i + 1) e (by simpa using he)) (fun i e j x he hx => by
      have := h (i + 1) e j x (by simpa using he) hx
      rwa [show p + ((i + 1) * sz + j) = p + sz + (i * sz + j) by rw [Nat.add_mul]; omega] at this)
    have hlen := a1.length
    have he := hl 0 e rfl
    refine ⟨v1 ++ v2, by rw [List.flatten_cons]; exact a1.append b1, fun j v hv => ?_⟩
    rw [List.getElem?_append] at hv
    split at hv
    · exact a2 j v hv
    · have := b2 _ v hv
      rwa [show p + sz + (j - v1.length) = p + j by omega] at this

/-- A row that holds these. -/
theorem row_cells {I : Nat → Nat → Prop} {w : World} {sz : Nat} {es : List (List RV)} {vs : List Value} (hl : ∀ (i : Nat) (e : List RV), es[i]? = some e → e.length = sz) (h : F2 (RRep w I) vs es.flatten)
    (i : Nat) (e : List RV) (j : Nat) (x : RV) (he : es[i]? = some e) (hx : e[j]? = some x) : ∃ v, vs[i * sz + j]? = some v ∧ RRep w I v x := by
  have hj : j < sz := by rw [← hl i e he]; exact get_lt hx
  exact h.get _ x (by rw [flat_get hl i j e he hj]; exact hx)

section
variable {P : Program} {a : Act} {o : Oper} {w : World} {g : G} {S : TS} {fr : Tr} {lv : Nat → Nat}

theorem push_hI {ob : Obj} {os : List TO} {n r : Nat} (hs : SRep w g os) : ∀ b i, g.I b i → (g.push n w.heap.size r).I b i ∧ ca { w with heap := w.heap.push ob } b i = ca w b i :=
  fun b i hi => ⟨hi, ca_of_heap (heap_push_lt (hs.imm_lt hi)) i⟩

theorem push_hO {os : List TO} {x : TO} {B r : Nat} : ∀ (o : Nat) (y : TO), os[o]? = some y → ∃ y', (os ++ [x])[o]? = some y' ∧ OExt g (g.push os.length B r) o y y' := by
  intro o y hy
  have hl := get_lt hy
  exact ⟨y, by rw [List.getElem?_append_left hl]; exact hy, .push (Nat.ne_of_lt hl)⟩

theorem push_noI {os : List TO} {n r : Nat} (hs : SRep w g os) (i : Nat) : ¬ (g.push n w.heap.size r).I w.heap.size i := fun hi => absurd (hs.imm_lt (g := g) (b := w.heap.size) hi) (by omega)

/-- A new object. -/
theorem post_push {t : TV} {rd : List Nat} {x : TO} {ob : Obj} {r : Nat} {v : Value} (hs : SRep w g S.objs) (hrun : (execOp a.eval o).run P w = .ok (.value v) { w with heap := w.heap.push ob })
    (hx : ORep { w with heap := w.heap.push ob } (g.push S.objs.length w.heap.size r) (S.objs ++ [x]) S.objs.length x)
    (hr : OpRep { w with heap := w.heap.push ob } (g.push S.objs.length w.heap.size r) (S.objs ++ [x]) fr lv v t) : OpPost P a o w g S fr lv ⟨t, .push S.objs.length rd x⟩ := by
  obtain ⟨h1, h2⟩ := SRep.push hs hx
  exact ⟨v, _, _, .inl hrun, h1, h2, hr⟩

/-- A new object, the world having been asked something before. -/
theorem post_push' {t : TV} {rd : List Nat} {x : TO} {ob : Obj} {r d : Nat} {v : Value} (hs : SRep w g S.objs) (hrun : (execOp a.eval o).run P w = .ok (.value v) { w with heap := w.heap.push ob, drawn := d })
    (hx : ORep { w with heap := w.heap.push ob } (g.push S.objs.length w.heap.size r) (S.objs ++ [x]) S.objs.length x)
    (hr : OpRep { w with heap := w.heap.push ob } (g.push S.objs.length w.heap.size r) (S.objs ++ [x]) fr lv v t) : OpPost P a o w g S fr lv ⟨t, .push S.objs.length rd x⟩ := by
  obtain ⟨h1, h2⟩ := SRep.push hs hx
  have h3 := h2.world (w' := { w with heap := w.heap.push ob, drawn := d }) (fun _ _ _ => rfl) (fun _ _ => rfl)
  refine ⟨v, _, _, .inl hrun, ⟨h1.rest, h1.size, h1.imm, h1.inew, h1.len, h1.mu, h1.new, h1.obj, h1.frame, h1.frz⟩, h3, ?_⟩
  refine OpRep.ext (w := { w with heap := w.heap.push ob }) (w' := { w with heap := w.heap.push ob, drawn := d }) ?_ ?_ hr
  · exact fun b i hi => ⟨hi, rfl⟩
  · exact fun o x hx => ⟨x, hx, .refl _ o x⟩

theorem box_ORep {cs : Array Value} {elem : TypeId} {ts : List TV} {r : Nat} (hs : SRep w g S.objs) (h : F2 (CRep w g S.objs) cs.toList ts) :
    ORep { w with heap := w.heap.push (.cells cs elem) } (g.push S.objs.length w.heap.size r) (S.objs ++ [.box ts]) S.objs.length (.box ts) :=
  ⟨cs, elem, by simp [G.push], h.imp fun _ _ => CRep.mono (push_hI hs) push_hO, fun i hi => push_noI (n := S.objs.length) (r := r) hs i (by simpa [G.push] using hi)⟩

variable (hs : SRep w g S.objs) (hf : ∀ x, OpRep w g S.objs fr lv (a.eval x) (operand fr x))
include hs

theorem op_alloc_push {t : Nat} {ti : TyI} (ho : o.op = .alloc t) (hty : mkTy P t = some ti) :
    OpPost P a o w g S fr lv ⟨.ptr S.objs.length 0, .push S.objs.length [] (.box (ti.zero.map fun c => TV.r (.sc c)))⟩ := by
  obtain ⟨inf, u, z, Y⟩ := mkTy_spec hty
  refine post_push (r := 0) (ob := .cells z.cells t) (v := .pointer (some ⟨w.heap.size, 0, none⟩)) hs ?_ (box_ORep hs (zero_rep Y.zero)) ⟨by simp [G.push], _, List.getElem?_concat_length⟩
  simp [execOp, ho, Instr.alloc, Y.run_zero, newVar, newRow]

theorem op_makeMap {t : Nat} {ei : TyI} (ho : o.op = .makeMap t none) : OpPost P a o w g S fr lv ⟨.mp S.objs.length, .push S.objs.length [] (.map ei.ag [] 0)⟩ := by
  refine post_push (r := 0) (ob := .map #[] 0) (v := .map (some w.heap.size)) hs ?_ ⟨#[], by simp [G.push], .nil, fun i hi => push_noI (n := S.objs.length) (r := 0) hs i (by simpa [G.push] using hi)⟩ ⟨by simp [G.push], _, _, _, List.getElem?_concat_length⟩
  simp [execOp, ho, Instr.makeMap]

theorem arr_ORep {C : Array Value} {elem : TypeId} {sz : Nat} {es : List (List RV)} {vs : List Value} (hl : ∀ (i : Nat) (e : List RV), es[i]? = some e → e.length = sz) (h : F2 (RRep w g.I) vs es.flatten)
    (hC : ∀ (j : Nat) (v : Value), vs[j]? = some v → C[j]? = some v) (hn : es.length * sz ≤ C.size) :
    ORep { w with heap := w.heap.push (.cells C elem) } (g.push S.objs.length w.heap.size C.size) (S.objs ++ [.arr sz es 0 0]) S.objs.length (.arr sz es 0 0) := by
  refine ⟨C, elem, by simp [G.push], by simp [G.push], by simpa [G.push] using hn, hl, fun i e j x he hx => ?_, fun k hk => absurd hk fun hi => push_noI (n := S.objs.length) (r := C.size) hs k (by simpa [G.push] using hi), Nat.zero_le _⟩
  obtain ⟨v, h1, h2⟩ := row_cells hl h i e j x he hx
  refine ⟨v, ?_, h2.mono (push_hI hs)⟩
  simpa [G.push] using hC _ v h1

omit hs in
/-- A slice of a whole new row. -/
theorem arr_OpRep {w' : World} {C : Array Value} {sz n : Nat} {es : List (List RV)} {cap' : Nat} {cap : Option Nat} (hn : n ≤ es.length) (hc : n ≤ cap') (hcap : ∀ k, cap = some k → cap' = k) (hroom : cap' * sz ≤ C.size) :
    OpRep w' (g.push S.objs.length w.heap.size C.size) (S.objs ++ [.arr sz es 0 0]) fr lv (.slice (some ⟨w.heap.size, 0, none⟩) n cap') (.sl S.objs.length 0 n 0 cap) :=
  ⟨_, cap', rfl, ⟨hc, rfl⟩, hcap, sz, es, 0, 0, by simp, Nat.le_refl _, fun _ => ⟨by omega, fun _ => ⟨by simp [G.push], by simpa [G.push] using hroom⟩⟩⟩

omit hs in
theorem replicate_get {α : Type} {n i : Nat} {z e : α} (h : (List.replicate n z)[i]? = some e) : e = z := by
  have := List.mem_of_getElem? h
  simp at this; exact this.2

omit hs in
theorem F2.sc_map {I : Nat → Nat → Prop} : ∀ vs : List Value, F2 (RRep w I) vs (vs.map .sc)
  | [] => .nil
  | v :: vs => .cons (.sc v) (F2.sc_map vs)

omit hs in
theorem flat_rep {I : Nat → Nat → Prop} {zs : List Value} : ∀ n : Nat, F2 (RRep w I) (List.replicate n zs).flatten (List.replicate n (zs.map RV.sc)).flatten
  | 0 => .nil
  | n + 1 => by
    rw [List.replicate_succ, List.replicate_succ, List.flatten_cons, List.flatten_cons]
    exact (F2.sc_map zs).append (flat_rep n)

omit hs in
/-- The zeros of a new row. -/
theorem zeros_get {z : Array Value} {n : Nat} (j : Nat) (v : Value) (h : (List.replicate n z.toList).flatten[j]? = some v) : ((Array.range (n * z.size)).map (z[· % z.size]!))[j]? = some v := by
  have hl : ∀ (i : Nat) (e : List Value), (List.replicate n z.toList)[i]? = some e → e.length = z.size := by
    intro i e he
    rw [replicate_get he]; simp
  have hlt := get_lt h
  rw [flat_len hl, List.length_replicate] at hlt
  have hz : 0 < z.size := by
    rcases Nat.eq_zero_or_pos z.size with h0 | h0
    · rw [h0] at hlt; omega
    · exact h0
  have hm := Nat.mod_lt j hz
  have hd : j / z.size < n := (Nat.div_lt_iff_lt_mul hz).2 hlt
  have := flat_get hl (j / z.size) (j % z.size) z.toList (by simp [hd]) hm
  rw [Nat.mul_comm, Nat.div_add_mod] at this
  rw [this] at h
  simp only [Array.getElem?_map, Array.getElem?_range, hlt, if_true, Option.map_some]
  simp at h
  rw [getElem!_pos z _ hm]
  obtain ⟨h1, h2⟩ := (Array.getElem?_eq_some_iff.1 h)
  rw [h2]

include hf in
theorem op_makeSlice {t e : Nat} {ti ei : TyI} {lx cx : Operand} {l c : Nat} {r : Out} (ho : o.op = .makeSlice t lx cx) (hty : mkTy P t = some ti) (hd : ti.d = .slice e) (hte : mkTy P e = some ei) (hl : asIntT (operand fr lx) = some (.ofNat l)) (hc : asIntT (operand fr cx) = some (.ofNat c))
    (h1 : l ≤ c) (h2 : c * ei.bytes ≤ roomT) (h3 : c ≤ roomT) (h : newArr S ei.size (List.replicate c (ei.zero.map .sc)) l (some c) [] = some r) : OpPost P a o w g S fr lv r := by
  obtain ⟨inf, u, z, Y⟩ := mkTy_spec hty
  obtain ⟨inf', u', z', Y'⟩ := mkTy_spec hte
  have hu := mkTD_slice (hd ▸ Y.desc)
  have hu' := Y.und
  rw [hu] at hu'
  obtain ⟨kl, hkl⟩ := asIntT_eq (hf lx) hl
  obtain ⟨kc, hkc⟩ := asIntT_eq (hf cx) hc
  simp only [newArr, Option.some.injEq] at h
  subst h
  have hzs : z'.cells.size = ei.size := by rw [← Array.length_toList, Y'.zero, Y'.zlen]
  have hrl : ∀ (i : Nat) (e : List RV), (List.replicate c (ei.zero.map RV.sc))[i]? = some e → e.length = ei.size := by
    intro i e he
    rw [replicate_get he]; simp [Y'.zlen]
  have hC := fun (j : Nat) (v : Value) (hv : (List.replicate c z'.cells.toList).flatten[j]? = some v) => zeros_get (z := z'.cells) (n := c) j v hv
  rw [hzs, Y'.zero] at hC
  have hsz : ((Array.range (c * ei.size)).map (z'.cells[· % ei.size]!)).size = c * ei.size := by simp
  refine post_push (v := .slice (some ⟨w.heap.size, 0, none⟩) l c) (ob := .cells ((Array.range (c * ei.size)).map (z'.cells[· % ei.size]!)) e) hs ?_ (arr_ORep hs hrl (flat_rep c) hC (by simp)) (arr_OpRep (by simpa using h1) h1 (by simp) (by simp))
  have hw : ∀ n : Nat, n ≤ roomT → IntKind.i64.wrap (n : Int) = n := by
    intro n hn
    simp only [roomT] at hn
    rw [IntKind.wrap_i64]
    omega
  have hlt := hw l (by omega)
  have hct := hw c h3
  have hb : ¬ (281474976710656 < (inf'.bytes : Int) * (c : Int)) := by
    rw [Y'.bytes, Int.mul_comm]
    have h2' : c * ei.bytes ≤ 1099511627776 := h2
    have h3' : ((c * ei.bytes : Nat) : Int) ≤ ((1099511627776 : Nat) : Int) := Int.ofNat_le.2 h2'
    rw [Int.natCast_mul] at h3'
    omega
  have hrun : (Instr.makeSlice t (.int kl (l : Nat)) (.int kc (c : Nat))).run P w = .ok (.slice (some ⟨w.heap.size, 0, none⟩) l c) { w with heap := w.heap.push (.cells ((Array.range (c * ei.size)).map (z'.cells[· % ei.size]!)) e) } := by
    have hlc : ¬ (c < l) := by omega
    have hr0 : Array.range 0 = #[] := rfl
    have hnn : ¬ ((c : Int) < 0 ∨ (l : Int) < 0) := by omega
    by_cases hn : c * ei.size = 0
    · have e0 : (Array.range (c * ei.size)).map (z'.cells[· % ei.size]!) = #[] := by rw [hn]; simp
      rw [e0]
      rcases Nat.mul_eq_zero.1 hn with h0 | h0
      · subst h0
        have : l = 0 := by omega
        subst this
        have h0 : IntKind.i64.wrap 0 = 0 := by rw [IntKind.wrap_i64]; omega
        simp [Instr.makeSlice, run_underlyingT hu', asInt, asIntOf, run_typeInfo Y'.info, h0, Y'.run_size, newRow, hr0]
      · simp [Instr.makeSlice, run_underlyingT hu', asInt, asIntOf, run_typeInfo Y'.info, hlt, hct, hb, Y'.run_size, h0, newRow, hlc, hr0, hnn]
    · simp [Instr.makeSlice, run_underlyingT hu', asInt, asIntOf, run_typeInfo Y'.info, hlt, hct, hb, Y'.run_size, newRow, Y'.run_zero, hlc, hzs, hnn]
      exact fun h => absurd h hn
  have hkl' : a.eval lx = .int kl (l : Nat) := hkl
  have hkc' : a.eval cx = .int kc (c : Nat) := hkc
  simp [execOp, ho, hkl', hkc', hrun]

end
end Go.TL
/- Literals of slices; what slices hold. -/
namespace Go.TL

theorem freezeL_same : ∀ {cs : List TV} {S S' : TS} {xs : List RV}, cs.flatMap sl1 = [] → freezeL S cs = some (xs, S') → S' = S
  | [], S, S', xs, _, h => by simp [freezeL] at h; exact h.2.symm
  | c :: cs, S, S', xs, hn, h => by
    simp only [List.flatMap_cons, List.append_eq_nil_iff] at hn
    simp only [freezeL] at h
    split at h
    · rename_i y S1 h1
      split at h
      · rename_i ys S2 h2
        simp at h; obtain ⟨rfl, rfl⟩ := h
        have e1 : S1 = S := by
          unfold freeze1 at h1
          split at h1
          · simp at h1; exact h1.2.symm
          · simp at h1; exact h1.2.symm
          · simp [sl1] at hn
          · simp at h1; exact h1.2.symm
          · cases h1
        rw [freezeL_same hn.2 h2, e1]
      · cases h
    · cases h

theorem chunks_len (n : Nat) : ∀ (k : Nat) (xs : List RV), (chunks n k xs).length = k
  | 0, _ => rfl
  | k + 1, xs => by simp [chunks, chunks_len n k]

theorem chunks_get (n : Nat) : ∀ (k : Nat) (xs : List RV) (i : Nat) (e : List RV), (chunks n k xs)[i]? = some e → i < k ∧ e = (xs.drop (i * n)).take n
  | 0, _, i, e, h => by simp [chunks] at h
  | k + 1, xs, 0, e, h => by simp [chunks] at h; subst h; simp
  | k + 1, xs, i + 1, e, h => by
    simp only [chunks, List.getElem?_cons_succ] at h
    obtain ⟨h1, h2⟩ := chunks_get n k _ i e h
    refine ⟨by omega, ?_⟩
    rw [h2, List.drop_drop, Nat.add_mul]
    congr 2; omega

theorem zeros_eq (z : Array Value) (n : Nat) : ((Array.range (n * z.size)).map (z[· % z.size]!)).toList = (List.replicate n z.toList).flatten := by
  have hl : ∀ (i : Nat) (e : List Value), (List.replicate n z.toList)[i]? = some e → e.length = z.size := by
    intro i e he
    rw [replicate_get he]; simp
  have hlen := flat_len hl
  rw [List.length_replicate] at hlen
  apply List.ext_getElem?
  intro j
  by_cases hj : j < n * z.size
  · have h1 : (List.replicate n z.toList).flatten[j]? = some ((List.replicate n z.toList).flatten[j]'(by omega)) := List.getElem?_eq_getElem _
    rw [Array.getElem?_toList, zeros_get j _ h1, h1]
  · rw [List.getElem?_eq_none (by simp; omega), List.getElem?_eq_none (by omega)]

section
variable {P : Program} {a : Act} {o : Oper} {w : World} {g : G} {S : TS} {fr : Tr} {lv : Nat → Nat}

/-- A new row that does not change from now on. -/
theorem row_more {os : List TO} {C : Array Value} {e : TypeId} (hs : SRep w g os) :
    Ext os w g os { w with heap := w.heap.push (.cells C e) } (g.more fun b i => b = w.heap.size ∧ i < C.size) ∧ SRep { w with heap := w.heap.push (.cells C e) } (g.more fun b i => b = w.heap.size ∧ i < C.size) os := by
  have hb : ∀ b, b < w.heap.size → (w.heap.push (.cells C e))[b]? = w.heap[b]? := fun b hb => heap_push_lt hb
  have hI : ∀ b i, g.I b i → (g.more fun b i => b = w.heap.size ∧ i < C.size).I b i ∧ ca { w with heap := w.heap.push (.cells C e) } b i = ca w b i := fun b i hi => ⟨.inl hi, ca_of_heap (hb b (hs.imm_lt hi)) i⟩
  have hO : ∀ (o : Nat) (x : TO), os[o]? = some x → ∃ x', os[o]? = some x' ∧ OExt g (g.more fun b i => b = w.heap.size ∧ i < C.size) o x x' := fun o x hx => ⟨x, hx, .more⟩
  refine ⟨⟨⟨rfl, rfl, rfl⟩, by simp, hI, fun b i hi => ?_, Nat.le_refl _, fun _ _ => .inl rfl, fun o h1 h2 => by omega, hO, fun b hb' _ => hb b hb', frz_off (B := w.heap.size) (fun b hb' => by simp [Array.getElem?_push, hb']) (fun a ha => by simp [World.frozen?, ha]) (fun a ha => by simp [World.frozen?, ha])⟩, ⟨fun o x hx => ?_, hs.inj, fun b i hi => ?_⟩⟩
  · rcases hi with hi | ⟨rfl, _⟩
    · exact .inl hi
    · exact .inr (.inl (Nat.le_refl _))
  · have h0 := hs.obj o x hx
    refine h0.mono hI hO (hb _ h0.lt) rfl rfl rfl fun i hi => ?_
    rcases hi with hi | ⟨hi, _⟩
    · exact hi
    · exact absurd h0.lt (by omega)
  · rcases hi with hi | ⟨rfl, hi⟩
    · rw [(hI b i hi).2]; exact hs.imm b i hi
    · simp [ca, World.cell?, hi]

variable (hs : SRep w g S.objs) (hf : ∀ x, OpRep w g S.objs fr lv (a.eval x) (operand fr x))
include hs hf

theorem op_buildSlice {t e len : Nat} {ti ei : TyI} {parts : Array (Nat × Operand)} {ps : List (Nat × Nat × TV)} {cs : List TV} {xs : List RV} {S1 : TS} {ef : Eff} (ho : o.op = .buildSlice t len parts) (hty : mkTy P t = some ti) (hd : ti.d = .slice e)
    (hte : mkTy P e = some ei) (h1 : 1 ≤ ei.size) (h2 : len * ei.size ≤ 16777216) (hps : evParts (operand fr) (fun i => some (i * ei.size, ei.size)) parts.toList = some ps)
    (hfill : fillT (List.replicate len (ei.zero.map fun c => TV.r (.sc c))).flatten ps = some cs) (hfz : freezeL S cs = some (xs, S1)) (hef : (ef.S S).objs = S1.objs) :
    OpPost P a o w g S fr lv ⟨.r (.lst (chunks ei.size len xs) (some len)), ef⟩ := by
  obtain ⟨inf, u, z, Y⟩ := mkTy_spec hty
  obtain ⟨inf', u', z', Y'⟩ := mkTy_spec hte
  have hu := mkTD_slice (hd ▸ Y.desc)
  have hu' := Y.und
  rw [hu] at hu'
  have hzs : z'.cells.size = ei.size := by rw [← Array.length_toList, Y'.zero, Y'.zlen]
  have hZ := zeros_eq z'.cells len
  rw [hzs] at hZ
  have hrep : F2 (CRep w g S.objs) ((Array.range (len * ei.size)).map (z'.cells[· % ei.size]!)).toList (List.replicate len (ei.zero.map fun c => TV.r (.sc c))).flatten := by
    rw [hZ, Y'.zero]
    clear hZ hfill h2 ho
    induction len with
    | zero => exact .nil
    | succ n ih =>
      rw [List.replicate_succ, List.replicate_succ, List.flatten_cons, List.flatten_cons]
      exact (F2.map_sc _).append ih
  obtain ⟨C, e1, e2, _⟩ := fill_rep hf parts.toList ps _ _ cs hps hrep hfill
  obtain ⟨g1, x1, s1, r1, m1, n1, q1⟩ := freezeL_rep hs e2 hfz
  obtain ⟨x2, s2⟩ := row_more (C := C) (e := e) s1
  have hCs : C.size = len * ei.size := by
    have a1 := e2.length
    have hl : ∀ (ps : List (Nat × Nat × TV)) (ts ts' : List TV), fillT ts ps = some ts' → ts'.length = ts.length := by
      intro ps
      induction ps with
      | nil => intro ts ts' h; simp [fillT] at h; rw [h]
      | cons p ps ih =>
        intro ts ts' h
        obtain ⟨off, n, v⟩ := p
        simp only [fillT] at h
        cases hb : (Nat.beq v.cells.length n && Nat.ble (off + n) ts.length && v.cells.all okCell) <;> rw [hb] at h
        · cases h
        · simp only [cond_true] at h
          simp only [Bool.and_eq_true] at hb
          have b1 := Nat.eq_of_beq_eq_true hb.1.1
          have b2 := Nat.le_of_ble_eq_true hb.1.2
          rw [ih _ _ h]
          simp; omega
    have a2 := hl ps _ _ hfill
    have a3 := flat_len (sz := ei.size) (es := List.replicate len (ei.zero.map fun c => TV.r (.sc c))) (fun i e he => by rw [replicate_get he]; simp [Y'.zlen])
    rw [List.length_replicate] at a3
    simp at a1
    omega
  have hxl := r1.length
  simp only [Array.length_toList] at hxl
  have hrun : (execOp a.eval o).run P w = .ok (.value (.slice (some ⟨w.heap.size, 0, none⟩) len len)) { w with heap := w.heap.push (.cells C e) } := by
    by_cases hn : len * ei.size = 0
    · have hl0 : len = 0 := by
        rcases Nat.mul_eq_zero.1 hn with h | h
        · exact h
        · omega
      subst hl0
      have hr0 : Array.range 0 = #[] := rfl
      simp only [Nat.zero_mul, hr0, Array.map_empty] at e1
      simp [execOp, ho, Instr.buildSlice, run_underlyingT hu', Y'.run_size, hr0, e1, newRow]
    · have h2' : ¬ (16777216 < len * ei.size) := by omega
      simp [execOp, ho, Instr.buildSlice, run_underlyingT hu', Y'.run_size, Y'.run_zero, h2', hzs, e1, newRow]
      exact fun h => absurd h hn
  refine ⟨_, _, g1.more fun b i => b = w.heap.size ∧ i < C.size, .inl hrun, ?_, ?_, ?_⟩
  · rw [hef]; exact x1.trans x2
  · rw [hef]; exact s2
  · rw [hef]
    show RRep _ _ _ (.lst _ _)
    have hcl := chunks_len ei.size len xs
    have hget := chunks_get ei.size len xs
    generalize chunks ei.size len xs = es at hcl hget
    have key : ∀ (i : Nat) (el : List RV) (j : Nat) (x : RV), es[i]? = some el → el[j]? = some x → i * ei.size + j < C.size ∧ j < ei.size ∧ xs[i * ei.size + j]? = some x := by
      intro i el j x he hx
      obtain ⟨k1, k2⟩ := hget i el he
      subst k2
      rw [List.getElem?_take] at hx
      split at hx
      · rename_i hj
        rw [List.getElem?_drop] at hx
        exact ⟨by rw [hxl]; exact get_lt hx, hj, hx⟩
      · cases hx
    have hch : ∃ cv : Nat → Nat → Value, ∀ (i : Nat) (el : List RV) (j : Nat) (x : RV), es[i]? = some el → el[j]? = some x → C[i * ei.size + j]? = some (cv i j) ∧ RRep w g1.I (cv i j) x := by
      refine ⟨fun i j => (C[i * ei.size + j]?).getD undef, fun i el j x he hx => ?_⟩
      obtain ⟨k1, k2, k3⟩ := key i el j x he hx
      obtain ⟨v, h5, h6⟩ := r1.get _ x k3
      rw [Array.getElem?_toList] at h5
      simp only [h5, Option.getD_some]
      exact ⟨trivial, h6⟩
    obtain ⟨cv, hcv⟩ := hch
    conv => rhs; rw [← hcl]
    rw [← hcl]
    refine .lst w.heap.size 0 _ ei.size es _ cv (Nat.le_refl _) (by simp) (fun i el he => ?_) (fun i el j x he hx => ?_) (fun i el j x he hx => (hcv i el j x he hx).2.mono x2.imm)
    · obtain ⟨k1, k2⟩ := hget i el he
      subst k2
      have : (i + 1) * ei.size ≤ len * ei.size := Nat.mul_le_mul_right _ k1
      rw [Nat.add_mul] at this
      simp; omega
    · obtain ⟨k1, k2, k3⟩ := key i el j x he hx
      rw [Nat.zero_add]
      refine ⟨?_, .inr ⟨rfl, k1⟩⟩
      simp [ca, World.cell?, (hcv i el j x he hx).1]

end
end Go.TL
/- Appending. -/
namespace Go.TL

section
variable {P : Program} {a : Act} {o : Oper} {w : World} {g : G} {S : TS} {fr : Tr} {lv : Nat → Nat}

/-- What a slice of an object holds. -/
theorem sl_cells (hs : SRep w g S.objs) {v : Value} {p off len ver sz frz : Nat} {cap : Option Nat} {es : List (List RV)} (h : SlRep g S.objs v p off len ver cap) (hp : S.objs[p]? = some (.arr sz es ver frz)) :
    ∃ aa cap' vs, v = .slice (some aa) len cap' ∧ len ≤ cap' ∧ (∀ k, cap = some k → cap' = k) ∧ off + len ≤ es.length ∧ (cap' ≠ 0 → aa = ⟨g.mu p, g.sh p + off * sz, none⟩ ∧ g.sh p + (off + cap') * sz ≤ g.room p) ∧
      F2 (RRep w g.I) vs ((es.drop off).take len).flatten ∧ (∀ (j : Nat) (u : Value), vs[j]? = some u → w.cell? (aa.add j) = some u) ∧ vs.length = len * sz := by
  obtain ⟨aa, cap', e1, ⟨e2, e2'⟩, e3, sz2, es2, w2, fz2, e4, e5, e6⟩ := h
  rw [hp] at e4
  simp only [Option.some.injEq, TO.arr.injEq] at e4
  obtain ⟨rfl, rfl, rfl, rfl⟩ := e4
  obtain ⟨f1, f2⟩ := e6 rfl
  obtain ⟨C, el, k1, k2, k3, k4, k5, k6, k7⟩ := hs.obj p _ hp
  have hget : ∀ (i : Nat) (e : List RV), ((es.drop off).take len)[i]? = some e → es[off + i]? = some e := by
    intro i e he
    rw [List.getElem?_take] at he
    split at he
    · rw [List.getElem?_drop] at he; exact he
    · cases he
  have hl : ∀ (i : Nat) (e : List RV), ((es.drop off).take len)[i]? = some e → e.length = sz := fun i e he => k4 _ e (hget i e he)
  have hlen : ((es.drop off).take len).length = len := by simp; omega
  by_cases hc : cap' = 0
  · have h0 : len = 0 := by omega
    subst h0
    exact ⟨aa, cap', [], e1, e2, e3, f1, f2, by simpa using .nil, by simp, by simp⟩
  · obtain ⟨f3, f4⟩ := f2 hc
    subst f3
    obtain ⟨vs, h1, h2⟩ := row_vals (w := w) (I := g.I) (sz := sz) (Q := fun k v => ca w (g.mu p) k = some v) (es := (es.drop off).take len) (p := g.sh p + off * sz) hl (fun i e j x he hx => by
      obtain ⟨v, h5, h6⟩ := k5 _ e j x (hget i e he) hx
      refine ⟨v, ?_, h6⟩
      rw [show g.sh p + off * sz + (i * sz + j) = g.sh p + ((off + i) * sz + j) by rw [Nat.add_mul]; omega]
      simp [ca, World.cell?, k1, h5])
    refine ⟨_, cap', vs, e1, e2, e3, f1, f2, h1, fun j u hu => by rw [addr_add]; exact h2 j u hu, ?_⟩
    rw [h1.length, flat_len hl, hlen]

theorem firstCells_heap {w w' : World} (h : w'.heap = w.heap) (a : Addr) : w'.cell? a = w.cell? a := by simp [World.cell?, h]

/-- What a slice that can be read holds. -/
theorem rd_cells (hs : SRep w g S.objs) {v : Value} {t : TV} {xs : List (List RV)} {size : Nat} (hv : OpRep w g S.objs fr lv v t) (h : rdSlice S t = some xs) (hl : ∀ (i : Nat) (e : List RV), xs[i]? = some e → e.length = size) :
    ∃ b cap vs, v = .slice b xs.length cap ∧ F2 (RRep w g.I) vs xs.flatten ∧ ∀ w' : World, w'.heap = w.heap → (Builtin.firstCells size xs.length v).run P w' = .ok vs.toArray w' := by
  have hsome : ∀ (aa : Addr) (n cap : Nat) (vs : List Value), n = xs.length → vs.length = n * size → (∀ (j : Nat) (u : Value), vs[j]? = some u → w.cell? (aa.add j) = some u) →
      ∀ w' : World, w'.heap = w.heap → (Builtin.firstCells size xs.length (.slice (some aa) n cap)).run P w' = .ok vs.toArray w' := by
    intro aa n cap vs hn hvl hc w' hw'
    exact run_firstCells_some w' size xs.length aa n cap vs (by rw [hvl, hn]) fun j u hu => by rw [firstCells_heap hw']; exact hc j u hu
  unfold rdSlice at h
  split at h
  · simp at h; subst h
    have := OpRep.sc hv
    subst this
    exact ⟨none, 0, [], rfl, .nil, fun w' _ => by simp [Builtin.firstCells]⟩
  · simp at h; subst h
    have := OpRep.sc hv
    subst this
    rename_i a cap
    exact ⟨some a, cap, [], rfl, .nil, hsome a 0 cap [] rfl (by simp) (by simp)⟩
  · simp at h; subst h
    rename_i es c
    have hv' : RRep w g.I v (.lst es c) := hv
    cases hv' with
    | nil c h => exact ⟨none, 0, [], rfl, .nil, fun w' _ => by simp [Builtin.firstCells]⟩
    | emp a cap c h => exact ⟨some a, cap, [], rfl, .nil, hsome a 0 cap [] rfl (by simp) (by simp)⟩
    | lst b off cap sz es c cv q2 q3 q4 q5 q6 =>
      have hsz : es ≠ [] → sz = size := by
        intro hne
        cases es with
        | nil => exact absurd rfl hne
        | cons e es => rw [← q4 0 e rfl, hl 0 e rfl]
      obtain ⟨vs, h1, h2⟩ := row_vals (w := w) (I := g.I) (sz := sz) (Q := fun k v => ca w b k = some v) (es := es) (p := off) q4 (fun i e j x he hx => ⟨cv i j, (q5 i e j x he hx).1, q6 i e j x he hx⟩)
      refine ⟨some ⟨b, off, none⟩, cap, vs, rfl, h1, hsome _ _ _ vs rfl ?_ fun j u hu => by rw [addr_add]; exact h2 j u hu⟩
      rw [h1.length, flat_len hl]
  · rename_i p off len ver c
    split at h
    · rename_i sz es v' frz ho
      cases hb : (Nat.beq v' ver && Nat.ble (off + len) es.length) <;> rw [hb] at h
      · cases h
      · simp only [cond_true, Option.some.injEq] at h
        simp only [Bool.and_eq_true] at hb
        have b1 := Nat.eq_of_beq_eq_true hb.1
        subst b1
        obtain ⟨aa, cap', vs, e1, e2, e3, e4, e5, e6, e7, e8⟩ := sl_cells hs hv ho
        have hlen : ((es.drop off).take len).length = len := by simp; omega
        rw [h] at e6 hlen
        subst e1
        refine ⟨some aa, cap', vs, by rw [hlen], e6, ?_⟩
        refine hsome aa len cap' vs hlen.symm ?_ e7
        rw [e6.length, flat_len hl, hlen]
    · cases h
  · cases h

theorem arr_assoc (a b : List Value) (c : Array Value) : a.toArray ++ (b.toArray ++ c) = (a ++ (b ++ c.toList)).toArray := by
  apply Array.ext'; simp

theorem okR_V {I : Nat → Nat → Prop} {v : Value} {x : RV} (h : RRep w I v x) (hk : okR x = true) : okV v = true := by
  cases h <;> first | exact hk | rfl

theorem okV_news {I : Nat → Nat → Prop} {vs : List Value} {xs : List (List RV)} (h : F2 (RRep w I) vs xs.flatten) (hk : (xs.all (·.all okR)) = true) : ∀ x ∈ vs, okV x = true := by
  have hk' : xs.flatten.all okR = true := by simpa using hk
  generalize xs.flatten = l at h hk'
  induction h with
  | nil => intro x hx; cases hx
  | cons h _ ih =>
    simp only [List.all_cons, Bool.and_eq_true] at hk'
    intro x hx
    cases hx with
    | head => exact okR_V h hk'.1
    | tail _ hx => exact ih hk'.2 x hx

/-- No memory is asked that no memory bears. -/
theorem grow_fits {need old bytes : Nat} (h : old < need) (hb : need * bytes ≤ roomT) : ¬ (281474976710656 < Builtin.nextslicecap need old * bytes) := by
  have := growslice_fits (need := need) (old := old) (bytes := bytes) h (by simp only [roomT] at hb; omega)
  omega

theorem le_grownCap (w : World) {need : Nat} (old : Nat) (e : TypeId) : need ≤ grownCap w need old e := by
  simp only [grownCap, Question.cut]; omega

section
variable {at_ : Array TypeId} {t e ty : TypeId} {i : TypeInfo} {z : Value} (h0 : at_[0]? = some t) (h1 : at_[1]? = none ∨ ∃ t1 e1, at_[1]? = some t1 ∧ P.underlying t1 = some (.slice e1)) (ht : P.underlying t = some (.slice e)) (hi : P.info? e = some i)
include h0 h1 ht hi

theorem run_append_fit {base xb : Option Addr} {sLen sCap n xc : Nat} {news : List Value} (hnews : (Builtin.firstCells i.size n (.slice xb n xc)).run P w = .ok news.toArray w) (hfit : sLen + n ≤ sCap) :
    (Builtin.append_ at_ ty #[.slice base sLen sCap, .slice xb n xc]).run P w =
      (match base with | some b => (storeCells (b.add (sLen * i.size)) news).run P w | none => .ok () w).andThen fun _ w' => .ok (.slice base (sLen + n) sCap) w' := by
  rcases h1 with h1 | ⟨t1, e1, h1, h2⟩
  · cases base <;> simp [Builtin.append_, h0, h1, run_underlyingT ht, sizeOf, typeInfo, hi, Builtin.lenOf, hnews, hfit]
  · cases base <;> simp [Builtin.append_, h0, h1, run_underlyingT ht, run_underlyingT h2, sizeOf, typeInfo, hi, Builtin.lenOf, hnews, hfit]

theorem run_append_big (hz : i.zero = some z) {base xb : Option Addr} {sLen sCap n xc : Nat} {olds news : List Value} (holds : (Builtin.firstCells i.size sLen (.slice base sLen sCap)).run P w.drew = .ok olds.toArray w.drew)
    (hnews : (Builtin.firstCells i.size n (.slice xb n xc)).run P w.drew = .ok news.toArray w.drew) (hbig : sCap < sLen + n) (h63 : sLen + n ≤ roomT) (h48 : (sLen + n) * i.bytes ≤ roomT) :
    (Builtin.append_ at_ ty #[.slice base sLen sCap, .slice xb n xc]).run P w =
      .ok (.slice (some ⟨w.heap.size, 0, none⟩) (sLen + n) (grownCap w (sLen + n) sCap e))
        { w with heap := w.heap.push (.cells (olds ++ news ++ (Builtin.zeroCells z.cells (grownCap w (sLen + n) sCap e - (sLen + n))).toList).toArray e), drawn := w.drawn + 1 } := by
  have hn : ¬ (sLen + n ≤ sCap) := by omega
  have h63' : ¬ (9223372036854775807 < ((sLen : Int) + (n : Int))) := by simp only [roomT] at h63; omega
  have h48' := grow_fits hbig h48
  rcases h1 with h1 | ⟨t1, e1, h1, h2⟩
  · simp [Builtin.append_, h0, h1, run_underlyingT ht, sizeOf, typeInfo, zeroValue, hi, hz, Builtin.lenOf, hn, h63', h48', Question.forced, hnews, holds, newRow, grownCap]
    rw [arr_assoc]; rfl
  · simp [Builtin.append_, h0, h1, run_underlyingT ht, run_underlyingT h2, sizeOf, typeInfo, zeroValue, hi, hz, Builtin.lenOf, hn, h63', h48', Question.forced, hnews, holds, newRow, grownCap]
    rw [arr_assoc]; rfl
end

/-- A longer row, laid anew. -/
theorem post_newArr {sLen n cap' : Nat} {e : TypeId} {sz : Nat} {z : Value} {es : List (List RV)} {vs : List Value} {rd : List Nat} (hs : SRep w g S.objs) (hz : z.cells.size = sz) (hl : ∀ (i : Nat) (e : List RV), es[i]? = some e → e.length = sz) (hn : es.length = sLen + n) (h : F2 (RRep w g.I) vs es.flatten)
    (hc : sLen + n ≤ cap') (hrun : (execOp a.eval o).run P w = .ok (.value (.slice (some ⟨w.heap.size, 0, none⟩) (sLen + n) cap'))
        { w with heap := w.heap.push (.cells (vs ++ (Builtin.zeroCells z.cells (cap' - (sLen + n))).toList).toArray e), drawn := w.drawn + 1 }) :
    OpPost P a o w g S fr lv ⟨.sl S.objs.length 0 (sLen + n) 0 .none, .push S.objs.length rd (.arr sz es 0 0)⟩ := by
  have hvl : vs.length = (sLen + n) * sz := by rw [h.length, flat_len hl, hn]
  have hC : (vs ++ (Builtin.zeroCells z.cells (cap' - (sLen + n))).toList).toArray.size = cap' * sz := by
    simp only [List.size_toArray, List.length_append, Array.length_toList, Builtin.zeroCells, Array.size_map, Array.size_range, hz, hvl]
    rw [← Nat.add_mul]
    congr 1; omega
  refine post_push' (d := w.drawn + 1) (ob := .cells (vs ++ (Builtin.zeroCells z.cells (cap' - (sLen + n))).toList).toArray e) hs hrun (arr_ORep hs hl h (fun j v hv => ?_) ?_) (arr_OpRep (by omega) hc (by simp) (by rw [hC]; exact Nat.le_refl _))
  · rw [List.getElem?_toArray, List.getElem?_append_left (get_lt hv)]; exact hv
  · rw [hC, hn]; exact Nat.mul_le_mul_right _ hc

theorem newArr_eq {sz : Nat} {es : List (List RV)} {len : Nat} {cap : Option Nat} {rd : List Nat} {r : Out} (h : newArr S sz es len cap rd = some r) : r = ⟨.sl S.objs.length 0 len 0 cap, .push S.objs.length rd (.arr sz es 0 0)⟩ := by
  simp only [newArr, Option.some.injEq] at h; exact h.symm

theorem all_append {sz : Nat} {xs ys : List (List RV)} (h : ∀ (i : Nat) (e : List RV), xs[i]? = some e → e.length = sz) (h' : ∀ (i : Nat) (e : List RV), ys[i]? = some e → e.length = sz) :
    ∀ (i : Nat) (e : List RV), (xs ++ ys)[i]? = some e → e.length = sz := by
  intro i e he
  rw [List.getElem?_append] at he
  split at he
  · exact h i e he
  · exact h' _ e he

/-- An object is laid anew, or moves on within its row. -/
theorem SRep.setG {os : List TO} {w' : World} {g' : G} {p : Nat} {x x' : TO} (hs : SRep w g os) (hx : os[p]? = some x) (hox : OExt g g' p x x') (hrest : w'.os = w.os ∧ w'.tape = w.tape ∧ w'.output = w.output) (hsize : w.heap.size ≤ w'.heap.size)
    (hb : ∀ b, b < w.heap.size → b ≠ g.mu p → w'.heap[b]? = w.heap[b]?) (hgI : g'.I = g.I) (hgo : ∀ q, q ≠ p → g'.mu q = g.mu q ∧ g'.sh q = g.sh q ∧ g'.room q = g.room q) (hmu : g'.mu p = g.mu p ∨ w.heap.size ≤ g'.mu p)
    (hI : ∀ i, g.I (g.mu p) i → ca w' (g.mu p) i = ca w (g.mu p) i) (hfr : ∀ a, w'.frozen? a = w.frozen? a)
    (hn : (∀ b i, g.I b i → g'.I b i ∧ ca w' b i = ca w b i) → ORep w' g' (os.set p x') p x') :
    Ext os w g (os.set p x') w' g' ∧ SRep w' g' (os.set p x') := by
  have hca : ∀ b i, g.I b i → ca w' b i = ca w b i := by
    intro b i hi
    by_cases he : b = g.mu p
    · subst he; exact hI i hi
    · exact ca_of_heap (hb b (hs.imm_lt hi) he) i
  have hI' : ∀ b i, g.I b i → g'.I b i ∧ ca w' b i = ca w b i := fun b i hi => ⟨by rw [hgI]; exact hi, hca b i hi⟩
  have hpl := get_lt hx
  have hO : ∀ (q : Nat) (y : TO), os[q]? = some y → ∃ y', (os.set p x')[q]? = some y' ∧ OExt g g' q y y' := by
    intro q y hy
    by_cases hp : p = q
    · subst hp
      rw [hx] at hy; simp at hy; subst hy
      exact ⟨x', by simp [hpl], hox⟩
    · refine ⟨y, by rw [List.getElem?_set_ne hp]; exact hy, ?_⟩
      obtain ⟨a1, a2, a3⟩ := hgo q (fun h => hp h.symm)
      cases y <;> simp [OExt, a1, a2, a3]
  refine ⟨⟨hrest, hsize, hI', fun b i hi => .inl (by rw [← hgI]; exact hi), by simp, fun q hq => ?_, fun o h1 h2 => by simp at h2; omega, hO, fun b hbl hne => hb b hbl fun he => hne p hpl he.symm, hfr⟩, ⟨fun q y hy => ?_, fun q q' h1 h2 he => ?_, fun b i hi => ?_⟩⟩
  · by_cases hp : q = p
    · subst hp; exact hmu
    · exact .inl (hgo q hp).1
  · by_cases hp : p = q
    · subst hp
      simp [hpl] at hy; subst hy
      exact hn hI'
    · rw [List.getElem?_set_ne hp] at hy
      obtain ⟨a1, a2, a3⟩ := hgo q (fun h => hp h.symm)
      have h0 := hs.obj q y hy
      exact h0.mono hI' hO (hb _ h0.lt fun he => hp (hs.inj p q hpl (get_lt hy) he.symm)) a1 a2 a3 fun i hi => by rw [← hgI]; exact hi
  · simp at h1 h2
    by_cases e1 : q = p <;> by_cases e2 : q' = p
    · omega
    · subst e1
      rw [(hgo q' e2).1] at he
      rcases hmu with hm | hm
      · rw [hm] at he; exact hs.inj q q' h1 h2 he
      · have := hs.mu_lt h2; omega
    · subst e2
      rw [(hgo q e1).1] at he
      rcases hmu with hm | hm
      · rw [hm] at he; exact hs.inj q q' h1 h2 he
      · have := hs.mu_lt h1; omega
    · rw [(hgo q e1).1, (hgo q' e2).1] at he; exact hs.inj q q' h1 h2 he
  · have hi' : g.I b i := by rw [← hgI]; exact hi
    rw [hca b i hi']; exact hs.imm b i hi'

/-- A growing row that outgrows its room. -/
theorem post_regrow {p sz ver frz off n cap' : Nat} {e : TypeId} {z : Value} {es esN : List (List RV)} {vs : List Value} {rd : List Nat} (hs : SRep w g S.objs) (hp : S.objs[p]? = some (.arr sz es ver frz)) (hz : z.cells.size = sz)
    (hl : ∀ (i : Nat) (e : List RV), esN[i]? = some e → e.length = sz) (hn : esN.length = n) (h : F2 (RRep w g.I) vs esN.flatten) (hc : n ≤ cap') (hfz : frz - off ≤ esN.length)
    (hrun : (execOp a.eval o).run P w = .ok (.value (.slice (some ⟨w.heap.size, 0, none⟩) n cap')) { w with heap := w.heap.push (.cells (vs ++ (Builtin.zeroCells z.cells (cap' - n)).toList).toArray e), drawn := w.drawn + 1 }) :
    OpPost P a o w g S fr lv ⟨.sl p 0 n (ver + 1) .none, .wr rd [p] (S.put p (.arr sz esN (ver + 1) (frz - off)))⟩ := by
  have hvl : vs.length = n * sz := by rw [h.length, flat_len hl, hn]
  have hC : (vs ++ (Builtin.zeroCells z.cells (cap' - n)).toList).toArray.size = cap' * sz := by
    simp only [List.size_toArray, List.length_append, Array.length_toList, Builtin.zeroCells, Array.size_map, Array.size_range, hz, hvl]
    rw [← Nat.add_mul]
    congr 1; omega
  have hget : ∀ (j : Nat) (v : Value), vs[j]? = some v → (vs ++ (Builtin.zeroCells z.cells (cap' - n)).toList).toArray[j]? = some v := fun j v hv => by
    rw [List.getElem?_toArray, List.getElem?_append_left (get_lt hv)]; exact hv
  generalize (vs ++ (Builtin.zeroCells z.cells (cap' - n)).toList).toArray = C at hC hget hrun
  have hpl := get_lt hp
  have hmn : (g.push p w.heap.size C.size).mu p = w.heap.size := by simp [G.push]
  obtain ⟨x1, x2⟩ := SRep.setG (w' := { w with heap := w.heap.push (.cells C e), drawn := w.drawn + 1 }) (g' := g.push p w.heap.size C.size) (x' := .arr sz esN (ver + 1) (frz - off)) hs hp
    (by simp [OExt]) ⟨rfl, rfl, rfl⟩ (by simp) (fun b hb _ => heap_push_lt hb) rfl (fun q hq => by simp [G.push, hq]) (.inr (by rw [hmn]; exact Nat.le_refl _))
    (fun i hi => ca_of_heap (heap_push_lt (hs.imm_lt hi)) i)
    (frz_off (B := w.heap.size) (fun b hb' => by simp [Array.getElem?_push, hb']) (fun a ha => by simp [World.frozen?, ha]) (fun a ha => by simp [World.frozen?, ha]))
    (fun hI' => ⟨C, e, by simp [G.push], by simp [G.push], by rw [hn]; simp [G.push, hC]; exact Nat.mul_le_mul_right _ hc, hl, fun i el j x he hx => by
      obtain ⟨v, h1, h2⟩ := row_cells hl h i el j x he hx
      refine ⟨v, ?_, h2.mono hI'⟩
      simpa [G.push] using hget _ v h1, fun k hk => absurd hk fun hi => push_noI (n := p) (r := C.size) hs k (by simpa [G.push] using hi), hfz⟩)
  refine ⟨_, _, _, .inl hrun, x1, x2, ?_⟩
  show SlRep _ _ _ _ _ _ _ _
  refine ⟨_, cap', rfl, ⟨hc, rfl⟩, by simp, sz, esN, ver + 1, frz - off, by simp [Eff.S, TS.put, hpl], Nat.le_refl _, fun _ => ⟨by omega, fun _ => ⟨by simp [G.push], by simp [G.push, hC]⟩⟩⟩

/-- A growing row that has room. -/
theorem post_grow_in {p sz ver frz off n m cap' : Nat} {es xs : List (List RV)} {C : Array Value} {e : TypeId} {news : List Value} {rd : List Nat} (hs : SRep w g S.objs) (hp : S.objs[p]? = some (.arr sz es ver frz)) (hC : w.heap[g.mu p]? = some (.cells C e (0, 0)))
    (hend : off + n = es.length) (hl : ∀ (i : Nat) (e : List RV), xs[i]? = some e → e.length = sz) (hm : xs.length = m) (h : F2 (RRep w g.I) news xs.flatten) (hc : n + m ≤ cap') (hroom : g.sh p + (off + cap') * sz ≤ C.size)
    (hrun : (execOp a.eval o).run P w = .ok (.value (.slice (some ⟨g.mu p, g.sh p + off * sz, none⟩) (n + m) cap')) (w.setRow (g.mu p) (C.toList.take (g.sh p + off * sz + n * sz) ++ news ++ C.toList.drop (g.sh p + off * sz + n * sz + news.length)).toArray)) :
    OpPost P a o w g S fr lv ⟨.sl p 0 (n + m) (ver + 1) .none, .wr rd [p] (S.put p (.arr sz (es.drop off ++ xs) (ver + 1) (frz - off)))⟩ := by
  obtain ⟨C0, e0, k1, k2, k3, k4, k5, k6, k7⟩ := hs.obj p _ hp
  rw [hC] at k1
  simp only [Option.some.injEq, Obj.cells.injEq] at k1
  obtain ⟨rfl, rfl, _⟩ := k1
  have hpl := get_lt hp
  have hnl : news.length = m * sz := by rw [h.length, flat_len hl, hm]
  have hes : es.length * sz = off * sz + n * sz := by rw [← hend, Nat.add_mul]
  have hcap : (n + m) * sz ≤ cap' * sz := Nat.mul_le_mul_right _ hc
  rw [Nat.add_mul] at hcap hroom
  have hlen1 : (C.toList.take (g.sh p + off * sz + n * sz) ++ news ++ C.toList.drop (g.sh p + off * sz + n * sz + news.length)).length = C.size := by simp; omega
  have hC1 : ∀ k, (C.toList.take (g.sh p + off * sz + n * sz) ++ news ++ C.toList.drop (g.sh p + off * sz + n * sz + news.length))[k]? =
      if k < g.sh p + off * sz + n * sz then C[k]? else if k < g.sh p + off * sz + n * sz + news.length then news[k - (g.sh p + off * sz + n * sz)]? else C[k]? := by
    intro k
    have hmm : min (g.sh p + off * sz + n * sz) C.size = g.sh p + off * sz + n * sz := by omega
    simp only [List.getElem?_append, List.getElem?_take, List.getElem?_drop, List.length_append, List.length_take, Array.length_toList, hmm]
    by_cases c1 : k < g.sh p + off * sz + n * sz
    · rw [if_pos (by omega), if_pos c1, if_pos c1, if_pos c1]; simp
    · by_cases c2 : k < g.sh p + off * sz + n * sz + news.length
      · rw [if_pos (by omega), if_neg c1, if_neg c1, if_pos c2]
      · rw [if_neg (by omega), if_neg c1, if_neg c2]
        rw [show g.sh p + off * sz + n * sz + news.length + (k - (g.sh p + off * sz + n * sz + news.length)) = k by omega]; simp
  generalize (C.toList.take (g.sh p + off * sz + n * sz) ++ news ++ C.toList.drop (g.sh p + off * sz + n * sz + news.length)) = C1 at hlen1 hC1 hrun
  have hrow := setRow_heap w (g.mu p) C C1.toArray e (0, 0) hC
  have hfr : frz * sz ≤ es.length * sz := Nat.mul_le_mul_right _ k7
  have hOR : (∀ b i, g.I b i → ({ g with sh := fun q => if q = p then g.sh p + off * sz else g.sh q } : G).I b i ∧ ca (w.setRow (g.mu p) C1.toArray) b i = ca w b i) →
      ORep (w.setRow (g.mu p) C1.toArray) { g with sh := fun q => if q = p then g.sh p + off * sz else g.sh q } (S.objs.set p (.arr sz (es.drop off ++ xs) (ver + 1) (frz - off))) p (.arr sz (es.drop off ++ xs) (ver + 1) (frz - off)) := by
    intro hI'
    refine ⟨C1.toArray, e, hrow, by simp [hlen1, k2], ?_, fun i el he => ?_, fun i el j x he hx => ?_, fun k hk => ?_, by simp; omega⟩
    · simp only [if_true, List.size_toArray, hlen1, List.length_append, List.length_drop, hm]
      rw [Nat.add_mul, Nat.sub_mul]; omega
    · rw [List.getElem?_append] at he
      split at he
      · rw [List.getElem?_drop] at he; exact k4 _ el he
      · exact hl _ el he
    · have hj : j < sz := by
        rw [List.getElem?_append] at he
        split at he
        · rw [List.getElem?_drop] at he; rw [← k4 _ el he]; exact get_lt hx
        · rw [← hl _ el he]; exact get_lt hx
      simp only [if_true, List.getElem?_toArray, hC1]
      rw [List.getElem?_append] at he
      split at he
      · rename_i hi
        rw [List.getElem?_drop] at he
        simp at hi
        obtain ⟨v, h1, h2⟩ := k5 _ el j x he hx
        refine ⟨v, ?_, h2.mono hI'⟩
        have : (i + 1) * sz ≤ n * sz := Nat.mul_le_mul_right _ (by omega)
        rw [Nat.add_mul] at this
        rw [if_pos (by omega), ← h1, Nat.add_mul]
        congr 1; omega
      · rename_i hi
        simp at hi
        obtain ⟨v, h1, h2⟩ := row_cells hl h _ el j x he hx
        refine ⟨v, ?_, h2.mono hI'⟩
        have hlt := get_lt h1
        simp only [List.length_drop] at hlt h1
        have e1 : i = n + (i - (es.length - off)) := by omega
        have e2 : i * sz = n * sz + (i - (es.length - off)) * sz := by rw [← Nat.add_mul, ← e1]
        rw [if_neg (by omega), if_pos (by omega), ← h1]
        congr 1; omega
    · have := k6 k hk
      simp only [if_true]
      have : frz * sz ≤ (off + (frz - off)) * sz := Nat.mul_le_mul_right _ (by omega)
      rw [Nat.add_mul] at this
      omega
  obtain ⟨x1, x2⟩ := SRep.setG (w' := w.setRow (g.mu p) C1.toArray) (g' := { g with sh := fun q => if q = p then g.sh p + off * sz else g.sh q }) (x' := .arr sz (es.drop off ++ xs) (ver + 1) (frz - off)) hs hp
    (by simp [OExt]) ⟨rfl, rfl, rfl⟩ (by simp) (fun b _ hb => setRow_other _ _ _ _ hb) rfl (fun q hq => by simp [hq]) (.inl rfl)
    (fun i hi => by
      have := k6 i hi
      have h1 := hC1 i
      rw [if_pos (by omega)] at h1
      simp [ca, World.cell?, hrow, hC, h1]) (frz_off (B := g.mu p) (fun b hb => setRow_other _ _ _ _ hb) (fun a ha => by simp [World.frozen?, ha, hC]) (fun a ha => by simp [World.frozen?, ha, hrow])) hOR
  refine ⟨_, _, _, .inl hrun, x1, x2, ?_⟩
  show SlRep _ _ _ _ _ _ _ _
  refine ⟨_, cap', rfl, ⟨hc, rfl⟩, by simp, sz, es.drop off ++ xs, ver + 1, frz - off, by simp [Eff.S, TS.put, hpl], Nat.le_refl _, fun _ => ⟨by simp; omega, fun _ => ⟨by simp, by simp [← k2]; omega⟩⟩⟩

theorem op_append {c : Call} {t e t1 : Nat} {ti t1i : TyI} {e1 : Nat} {s x : Operand} {r : Out} (hs : SRep w g S.objs) (hf : ∀ x, OpRep w g S.objs fr lv (a.eval x) (operand fr x)) (ho : o.op = .call c) (hc : c.callee = .builtin .append) (hargs : c.args.toList = [s, x])
    (ht0 : c.argTypes[0]? = some t) (hty : mkTy P t = some ti) (hd : ti.d = .slice e) (ht1 : (c.argTypes[1]?).getD 0 = t1) (hty1 : mkTy P t1 = some t1i) (hd1 : t1i.d = .slice e1)
    (h : appendT P S e (operand fr s) (operand fr x) = some r) : OpPost P a o w g S fr lv r := by
  obtain ⟨inf, u, z, Y⟩ := mkTy_spec hty
  obtain ⟨inf1, u1, z1, Y1⟩ := mkTy_spec hty1
  have hu := mkTD_slice (hd ▸ Y.desc)
  have hu' := Y.und
  rw [hu] at hu'
  have hu1 := mkTD_slice (hd1 ▸ Y1.desc)
  have hu1' := Y1.und
  rw [hu1] at hu1'
  have hat1 : c.argTypes[1]? = none ∨ ∃ t1 e1, c.argTypes[1]? = some t1 ∧ P.underlying t1 = some (.slice e1) := by
    cases hq : c.argTypes[1]? with
    | none => exact .inl rfl
    | some q => rw [hq] at ht1; simp at ht1; subst ht1; exact .inr ⟨q, e1, rfl, hu1'⟩
  have hargs' : c.args = #[s, x] := Array.toList_inj.1 hargs
  have hexec : ∀ w, (execOp a.eval o).run P w = ((Builtin.append_ c.argTypes o.type #[a.eval s, a.eval x]).run P w).andThen fun v w' => .ok (.value v) w' := by
    intro w
    rw [exec_builtin ho hc]
    simp [builtin, hargs']
  unfold appendT at h
  split at h
  · rename_i ei xs n hte hxs hn
    obtain ⟨inf', u', z', Y'⟩ := mkTy_spec hte
    cases hb : (Nat.ble ((n + xs.length) * ei.bytes) roomT && Nat.ble (n + xs.length) roomT && allLen ei.size xs && xs.all (·.all okR)) <;> rw [hb] at h
    · cases h
    · simp only [cond_true] at h
      simp only [Bool.and_eq_true] at hb
      obtain ⟨⟨⟨b1, b2⟩, b3⟩, b4⟩ := hb
      have b1 := Nat.le_of_ble_eq_true b1
      have b2 := Nat.le_of_ble_eq_true b2
      have b3 := allLen_spec b3
      have hzs : z'.cells.size = ei.size := by rw [← Array.length_toList, Y'.zero, Y'.zlen]
      have hsv := hf s
      obtain ⟨xb, xc, news, x1, x2, x3⟩ := rd_cells (P := P) hs (hf x) hxs b3
      obtain ⟨sb, sc, s1, s2⟩ := lenT_spec hsv hn
      rw [x1] at x3
      rw [← Y'.size] at x3
      have hbytes : (n + xs.length) * inf'.bytes ≤ roomT := by rw [Y'.bytes]; exact b1
      cases xs with
      | nil =>
        simp only [Option.some.injEq] at h
        subst h
        have hfit := run_append_fit (P := P) (w := w) (ty := o.type) (i := inf') (base := sb) (xb := xb) (sLen := n) (sCap := sc) (n := 0) (xc := xc) (news := news) ht0 hat1 hu' Y'.info (x3 w rfl) (by simpa using s2)
        have hnil : news = [] := by cases x2; rfl
        subst hnil
        refine post_same hs rfl (v := a.eval s) ?_ hsv
        rw [hexec, x1, s1]
        simp only [List.length_nil, Nat.add_zero] at hfit ⊢
        rw [hfit]
        cases sb <;> simp [storeCells]
      | cons y ys =>
        have hxn : (y :: ys).length ≠ 0 := by simp
        simp only at h
        generalize y :: ys = xs at *
        -- a new row
        have hbig : ∀ (olds : List Value) (esO : List (List RV)) (rd : List Nat), (∀ w', w'.heap = w.heap → (Builtin.firstCells ei.size n (.slice sb n sc)).run P w' = .ok olds.toArray w') → F2 (RRep w g.I) olds esO.flatten →
            esO.length = n → (∀ (i : Nat) (e : List RV), esO[i]? = some e → e.length = ei.size) → sc < n + xs.length → OpPost P a o w g S fr lv ⟨.sl S.objs.length 0 (n + xs.length) 0 .none, .push S.objs.length rd (.arr ei.size (esO ++ xs) 0 0)⟩ := by
          intro olds esO rd h1 h2 h3 h4 h5
          rw [← Y'.size] at h1
          have hr := run_append_big (P := P) (w := w) (ty := o.type) (i := inf') (z := z') (base := sb) (xb := xb) (sLen := n) (sCap := sc) (n := xs.length) (xc := xc) (olds := olds) (news := news) ht0 hat1 hu' Y'.info Y'.izero (h1 w.drew rfl) (x3 w.drew rfl) h5 b2 hbytes
          refine post_newArr (z := z') (e := e) (vs := olds ++ news) (cap' := grownCap w (n + xs.length) sc e) hs hzs (all_append h4 b3) (by simp [h3]) (by rw [List.flatten_append]; exact h2.append x2) (le_grownCap w sc e) ?_
          rw [hexec, s1, x1, hr]
          rfl
        split at h
        · rename_i hss
          have := newArr_eq h
          subst this
          rw [hss] at hn hsv
          simp [lenT] at hn
          subst hn
          have := OpRep.sc hsv
          rw [s1] at this
          simp only [Value.slice.injEq] at this
          obtain ⟨rfl, _, rfl⟩ := this
          have := hbig [] [] (operand fr x).sls (fun w' _ => by simp [Builtin.firstCells]) .nil rfl (by simp) (by omega)
          simpa using this
        · rename_i es c hss
          rw [hss] at hn hsv
          cases hq : (Nat.blt c (n + xs.length) && allLen ei.size es) <;> rw [hq] at h
          · cases h
          · simp only [cond_true] at h
            simp only [Bool.and_eq_true] at hq
            have q1 := hq.1
            have q2 := allLen_spec hq.2
            have := newArr_eq h
            subst this
            have hrd : rdSlice S (.r (.lst es (some c))) = some es := rfl
            have hn' : es.length = n := by simpa [lenT] using hn
            have hcap : sc = c := by
              have hv' : RRep w g.I (a.eval s) (.lst es (some c)) := hsv
              generalize a.eval s = vx at hv' s1
              cases hv' with
              | nil _ h =>
                simp only [Value.slice.injEq] at s1
                have := h c rfl
                omega
              | emp _ _ _ h =>
                simp only [Value.slice.injEq] at s1
                have := h c rfl
                omega
              | lst b off cap sz _ _ cv q2 q3 q4 q5 q6 =>
                simp only [Value.slice.injEq] at s1
                have := q3 c rfl
                omega
            obtain ⟨ob, oc, olds, o1, o2, o3⟩ := rd_cells (P := P) hs hsv hrd q2
            rw [hn', s1] at o3
            have hlt : c < n + xs.length := by
              have := Nat.le_of_ble_eq_true q1
              omega
            exact hbig olds es (operand fr x).sls o3 o2 hn' q2 (by omega)
        · rename_i p off len ver cap hss
          rw [hss] at hn hsv
          simp [lenT] at hn
          subst hn
          split at h
          · rename_i sz es v' frz hp
            cases hq : (Nat.beq v' ver && Nat.beq sz ei.size && Nat.ble (off + len) es.length) <;> rw [hq] at h
            · cases h
            · simp only [cond_true] at h
              simp only [Bool.and_eq_true] at hq
              obtain ⟨⟨q1, q2⟩, q3⟩ := hq
              have q1 := Nat.eq_of_beq_eq_true q1
              have q2 := Nat.eq_of_beq_eq_true q2
              have q3 := Nat.le_of_ble_eq_true q3
              subst q1 q2
              obtain ⟨aa, cap', olds, e1, e2, e3, e4, e5, e6, e7, e8⟩ := sl_cells hs hsv hp
              rw [s1] at e1
              simp only [Value.slice.injEq] at e1
              obtain ⟨rfl, _, rfl⟩ := e1
              have hl : ∀ (i : Nat) (e : List RV), ((es.drop off).take len)[i]? = some e → e.length = ei.size := by
                obtain ⟨C, el, k1, k2, k3, k4, k5, k6, k7⟩ := hs.obj p _ hp
                intro i e he
                rw [List.getElem?_take] at he
                split at he
                · rw [List.getElem?_drop] at he; exact k4 _ e he
                · cases he
              have holds : ∀ w' : World, w'.heap = w.heap → (Builtin.firstCells ei.size len (.slice (some aa) len sc)).run P w' = .ok olds.toArray w' := fun w' hw' =>
                run_firstCells_some w' ei.size len aa len sc olds e8 fun j u hu => by rw [firstCells_heap hw']; exact e7 j u hu
              split at h
              · rename_i cc
                cases hq2 : Nat.blt cc (len + xs.length) <;> rw [hq2] at h
                · cases h
                · simp only [cond_true] at h
                  have := newArr_eq h
                  subst this
                  have hlt : cc < len + xs.length := by
                    have := Nat.le_of_ble_eq_true hq2
                    omega
                  have hcc := e3 cc rfl
                  exact hbig olds _ _ holds e6 (by simp; omega) hl (by omega)
              · cases hq2 : Nat.beq (off + len) es.length <;> rw [hq2] at h
                · cases h
                · simp only [cond_true, Option.some.injEq] at h
                  subst h
                  have hq2 := Nat.eq_of_beq_eq_true hq2
                  obtain ⟨C, el, k1, k2, k3, k4, k5, k6, k7⟩ := hs.obj p _ hp
                  have htk : (es.drop off).take len = es.drop off := List.take_of_length_le (by simp; omega)
                  by_cases hbg : sc < len + xs.length
                  · rw [htk] at e6 hl
                    have h1 := holds w.drew rfl
                    rw [← Y'.size] at h1
                    have hr := run_append_big (P := P) (w := w) (ty := o.type) (i := inf') (z := z') (base := some aa) (xb := xb) (sLen := len) (sCap := sc) (n := xs.length) (xc := xc) (olds := olds) (news := news) ht0 hat1 hu' Y'.info Y'.izero h1 (x3 w.drew rfl) hbg b2 hbytes
                    refine post_regrow (z := z') (e := e) (es := es) (vs := olds ++ news) (cap' := grownCap w (len + xs.length) sc e) hs hp hzs (all_append hl b3) (by simp; omega) (by rw [List.flatten_append]; exact e6.append x2) (le_grownCap w sc e) (by simp; omega) ?_
                    rw [hexec, s1, x1, hr]
                    rfl
                  · have hsc : sc ≠ 0 := by omega
                    obtain ⟨rfl, f4⟩ := e5 hsc
                    have hfit := run_append_fit (P := P) (w := w) (ty := o.type) (i := inf') (base := some ⟨g.mu p, g.sh p + off * ei.size, none⟩) (xb := xb) (sLen := len) (sCap := sc) (n := xs.length) (xc := xc) (news := news) ht0 hat1 hu' Y'.info (x3 w rfl) (by omega)
                    have hnl : news.length = xs.length * ei.size := by rw [x2.length, flat_len b3]
                    have hmul : (len + xs.length) * ei.size ≤ sc * ei.size := Nat.mul_le_mul_right _ (by omega)
                    rw [Nat.add_mul] at hmul f4
                    have hst := run_storeCells_at P (g.mu p) (g.sh p + off * ei.size + len * ei.size) el news 0 C w k1 (by omega) (fun x hx => okV_one (okV_news x2 b4 x hx))
                    refine post_grow_in (C := C) (e := el) (news := news) (cap' := sc) hs hp k1 hq2 b3 rfl x2 (by omega) (by rw [Nat.add_mul]; omega) ?_
                    rw [hexec, s1, x1, hfit]
                    simp only [Y'.size, addr_add, Nat.add_zero] at hst ⊢
                    rw [hst]
                    rfl
          · cases h
        · cases h
  · cases h

end
end Go.TL
/- Maps. -/
namespace Go.TL

section
variable {P : Program} {a : Act} {o : Oper} {w : World} {g : G} {S : TS} {fr : Tr} {lv : Nat → Nat} {I : Nat → Nat → Prop}

theorem getMap {r c : Nat} {E : Array MapEntry} {w : World} (h : w.heap[r]? = some (.map E c)) : (getObj r).run P w = .ok (.map E c) w := by simp [getObj, Sem.run, h]
theorem setMap {r c : Nat} {E : Array MapEntry} {w : World} (ob : Obj) (h : w.heap[r]? = some (.map E c)) : (setObj r ob).run P w = .ok () { w with heap := w.heap.setIfInBounds r ob } := by simp [setObj, Sem.run, h]

/-- What a map's key may be. -/
inductive KeyKind (P : Program) (kt : Nat) (e : Bool) : Value → Prop
  | int (j : IntKind) (a : Int) (h : P.underlying kt = some (.int j)) : KeyKind P kt e (.int j a)
  | str (s : ByteArray) (h : P.underlying kt = some .string) : KeyKind P kt e (.string s)
  | bool (b : Bool) (h : P.underlying kt = some .bool) : KeyKind P kt e (.bool b)
  | agg (cs : Array Value) (F : Array Field) (h : P.underlying kt = some (.struct F)) (hc : (pureRun P (Instr.checkKey e 10000 kt (.agg cs))).isSome = true) : KeyKind P kt e (.agg cs)

theorem keyOk_spec {kt : Nat} {e : Bool} {k : Value} (h : keyOk P kt e k = true) : KeyKind P kt e k := by
  unfold keyOk at h
  split at h
  · rename_i hty
    obtain ⟨inf, u, z, Y⟩ := mkTy_spec hty
    have hu := mkTD_int Y.desc
    have hu' := Y.und
    rw [hu] at hu'
    have := of_decide_eq_true h
    subst this
    exact .int _ _ hu'
  · rename_i hty
    obtain ⟨inf, u, z, Y⟩ := mkTy_spec hty
    have hu := mkTD_str Y.desc
    have hu' := Y.und
    rw [hu] at hu'
    exact .str _ hu'
  · rename_i hty
    obtain ⟨inf, u, z, Y⟩ := mkTy_spec hty
    have hu := mkTD_bool Y.desc
    have hu' := Y.und
    rw [hu] at hu'
    exact .bool _ hu'
  · rename_i hty
    obtain ⟨inf, u, z, Y⟩ := mkTy_spec hty
    obtain ⟨F, hu, _⟩ := mkTD_struct Y.desc
    have hu' := Y.und
    rw [hu] at hu'
    exact .agg _ F hu' h
  · cases h

theorem run_checkKey {kt : Nat} {e : Bool} {k : Value} (h : KeyKind P kt e k) (w : World) : (Instr.checkKey e 10000 kt k).run P w = .ok () w := by
  cases h with
  | int j a h =>
    show (Instr.checkKey e (9999 + 1) kt _).run P w = _
    rw [Instr.checkKey]
    simp only [Sem.run_bind, run_underlyingT h, Result.andThen_ok]
    rfl
  | str s h =>
    show (Instr.checkKey e (9999 + 1) kt _).run P w = _
    rw [Instr.checkKey]
    simp only [Sem.run_bind, run_underlyingT h, Result.andThen_ok]
    rfl
  | bool b h =>
    show (Instr.checkKey e (9999 + 1) kt _).run P w = _
    rw [Instr.checkKey]
    simp only [Sem.run_bind, run_underlyingT h, Result.andThen_ok]
    rfl
  | agg cs F h hc =>
    obtain ⟨u, hu⟩ := Option.isSome_iff_exists.1 hc
    exact pureRun_run hu w

/-- What finding a key owes. -/
def FoundAs (w : World) (I : Nat → Nat → Prop) (ag : Bool) (E : List MapEntry) (es : List (Value × List RV × Nat)) (i0 : Nat) : Option (Nat × List RV × Nat) → Option (Nat × Value) → Prop
  | none, r => r = none
  | some (i, v, b), r => ∃ ent k', E[i - i0]? = some ent ∧ es[i - i0]? = some (k', v, b) ∧ i0 ≤ i ∧ EntRep w I ag ent (k', v, b) ∧ r = some (i, ent.val)

theorem FoundAs.cons {ag : Bool} {E : List MapEntry} {es : List (Value × List RV × Nat)} {e : MapEntry} {t : Value × List RV × Nat} {i0 : Nat} {r : Option (Nat × List RV × Nat)} {r' : Option (Nat × Value)}
    (h : FoundAs w I ag E es (i0 + 1) r r') : FoundAs w I ag (e :: E) (t :: es) i0 r r' := by
  cases r with
  | none => exact h
  | some q =>
    obtain ⟨i, v, b⟩ := q
    obtain ⟨ent, k', h1, h2, h3, h4, h5⟩ := h
    refine ⟨ent, k', ?_, ?_, by omega, h4, h5⟩
    · rw [show i - i0 = (i - (i0 + 1)) + 1 by omega]; simpa using h1
    · rw [show i - i0 = (i - (i0 + 1)) + 1 by omega]; simpa using h2

theorem findNow_spec {ag : Bool} {kt : Nat} {kind : TypeDesc} {k : Value} (hk : ∀ k' b, keyEq P kt k k' = some b → Instr.sameNow kind k k' = some b) : ∀ {E : List MapEntry} {es : List (Value × List RV × Nat)} {i0 : Nat} {r : Option (Nat × List RV × Nat)},
    F2 (EntRep w I ag) E es → findK P kt k es i0 = some r → ∃ r', Instr.findNow kind k E i0 = some r' ∧ FoundAs w I ag E es i0 r r' := by
  intro E es i0 r h hf
  induction h generalizing i0 r with
  | nil => simp [findK] at hf; subst hf; exact ⟨none, rfl, rfl⟩
  | cons h t ih =>
    rename_i e tt E es
    obtain ⟨k', v, b⟩ := tt
    simp only [findK] at hf
    have hkey : e.key = k' := h.1
    split at hf
    · rename_i hq
      simp at hf; subst hf
      have := hk _ _ hq
      refine ⟨some (i0, e.val), by simp [Instr.findNow, hkey, this], e, k', by simp, by simp, Nat.le_refl _, h, rfl⟩
    · rename_i hq
      have := hk _ _ hq
      obtain ⟨r', h1, h2⟩ := ih hf
      exact ⟨r', by simp [Instr.findNow, hkey, this, h1], h2.cons⟩
    · cases hf

theorem findAsking_spec {ag : Bool} {kt : Nat} {k : Value} (hk : ∀ k' b, keyEq P kt k k' = some b → ∀ w, (Op.equal kt k k').run P w = .ok b w) : ∀ {E : List MapEntry} {es : List (Value × List RV × Nat)} {i0 : Nat} {r : Option (Nat × List RV × Nat)},
    F2 (EntRep w I ag) E es → findK P kt k es i0 = some r → ∃ r', (∀ w', (Instr.findAsking kt k E i0).run P w' = .ok r' w') ∧ FoundAs w I ag E es i0 r r' := by
  intro E es i0 r h hf
  induction h generalizing i0 r with
  | nil => simp [findK] at hf; subst hf; exact ⟨none, fun _ => rfl, rfl⟩
  | cons h t ih =>
    rename_i e tt E es
    obtain ⟨k', v, b⟩ := tt
    simp only [findK] at hf
    have hkey : e.key = k' := h.1
    split at hf
    · rename_i hq
      simp at hf; subst hf
      have := hk _ _ hq
      refine ⟨some (i0, e.val), fun w' => by simp [Instr.findAsking, hkey, this], e, k', by simp, by simp, Nat.le_refl _, h, rfl⟩
    · rename_i hq
      have := hk _ _ hq
      obtain ⟨r', h1, h2⟩ := ih hf
      exact ⟨r', fun w' => by simp [Instr.findAsking, hkey, this, h1], h2.cons⟩
    · cases hf

theorem run_findKey {ag emp : Bool} {kt : Nat} {k : Value} (hkk : KeyKind P kt emp k) {E : List MapEntry} {es : List (Value × List RV × Nat)} {r : Option (Nat × List RV × Nat)} (h : F2 (EntRep w I ag) E es) (hf : findK P kt k es 0 = some r) :
    ∃ r', (∀ w', (Instr.findKey kt k E).run P w' = .ok r' w') ∧ FoundAs w I ag E es 0 r r' := by
  have scalar : ∀ (u : TypeDesc), P.underlying kt = some u → (∀ k' b, keyEq P kt k k' = some b → Instr.sameNow u k k' = some b) → ∃ r', (∀ w', (Instr.findKey kt k E).run P w' = .ok r' w') ∧ FoundAs w I ag E es 0 r r' := by
    intro u hu hs
    obtain ⟨r', h1, h2⟩ := findNow_spec hs h hf
    exact ⟨r', fun w' => by simp [Instr.findKey, run_underlyingT hu, h1], h2⟩
  cases hkk with
  | int j x hu =>
    refine scalar _ hu fun k' b hb => ?_
    cases k' <;> simp [keyEq] at hb
    simp [Instr.sameNow, hb]
  | str s hu =>
    refine scalar _ hu fun k' b hb => ?_
    cases k' <;> simp [keyEq] at hb
    simp [Instr.sameNow, hb]
  | bool b hu =>
    refine scalar _ hu fun k' b hb => ?_
    cases k' <;> simp [keyEq] at hb
    simp [Instr.sameNow, hb]
  | agg cs F hu hc =>
    obtain ⟨r', h1, h2⟩ := findAsking_spec (k := .agg cs) (fun k' b hb => by
      cases k' <;> simp [keyEq] at hb
      exact fun w => pureRun_run hb w) h hf
    refine ⟨r', fun w' => ?_, h2⟩
    cases E with
    | nil =>
      have := h1 w'
      simp [Instr.findAsking] at this
      simp [Instr.findKey, run_underlyingT hu, Instr.findNow, this]
    | cons e E => simp [Instr.findKey, run_underlyingT hu, Instr.findNow, Instr.sameNow, h1]

theorem entVal_rep {ag : Bool} {e : MapEntry} {k : Value} {v : List RV} {b : Nat} {os : List TO} (h : EntRep w g.I ag e (k, v, b)) : PRep w g os e.val (entVal ag v) := by
  obtain ⟨_, _, h⟩ := h
  cases ag
  · obtain ⟨x, h1, h2⟩ := h
    simp only at h1
    subst h1
    exact h2
  · obtain ⟨vs, h1, h2⟩ := h
    exact ⟨vs, h1, h2.rmap⟩

theorem zeroVal_rep {t : Nat} {ti : TyI} {inf : TypeInfo} {u : TypeDesc} {z : Value} {os : List TO} (Y : TyGood P t ti inf u z) : PRep w g os z (zeroVal ti) := by
  unfold zeroVal
  cases hag : ti.ag
  · have h1 : isAggV z = false := by rw [Y.zag, ← Y.ag, hag]
    have h2 : z.cells = #[z] := by cases z <;> simp [isAggV] at h1 <;> rfl
    have h3 := Y.zero
    rw [h2] at h3
    rw [← h3]
    exact RRep.sc z
  · have h1 : isAggV z = true := by rw [Y.zag, ← Y.ag, hag]
    cases z <;> simp [isAggV] at h1
    rename_i cs
    have h3 := Y.zero
    simp only [Value.cells] at h3
    refine ⟨cs.toList, by simp, ?_⟩
    rw [← h3]; exact F2.map_sc _

theorem P_Op {v : Value} {t : TV} {os : List TO} (h : PRep w g os v t) : OpRep w g os fr lv v t := by
  cases t <;> first | exact h | exact h.elim

variable (hs : SRep w g S.objs) (hf : ∀ x, OpRep w g S.objs fr lv (a.eval x) (operand fr x))
include hs hf

theorem op_lookup {t : Nat} {ti : TyI} {x k : Operand} {ok : Bool} {r : Out} (ho : o.op = .lookup t x k ok) (hty : mkTy P t = some ti) (h : lookupT P S ti (operand fr x) (operand fr k) ok = some r) : OpPost P a o w g S fr lv r := by
  obtain ⟨inf, u, z, Y⟩ := mkTy_spec hty
  have hu' := Y.und
  have hvx := hf x
  unfold lookupT at h
  split at h
  · rename_i kt e hd
    have hu := mkTD_map (hd ▸ Y.desc)
    rw [hu] at hu'
    split at h
    · rename_i ei kv hte hkv
      obtain ⟨inf', u', z', Y'⟩ := mkTy_spec hte
      have hk := toV_eq (hf k) hkv
      -- what is handed back
      have fin : ∀ (E : List MapEntry) (ag : Bool) (es : List (Value × List RV × Nat)) (q : Option (Nat × List RV × Nat)) (q' : Option (Nat × Value)) (rd : Eff) (rr : Out), (rd.S S).objs = S.objs → FoundAs w g.I ag E es 0 q q' →
          (execOp a.eval o).run P w = .ok (.value (let p := (match q' with | some (_, v) => (v, true) | none => (z', false)); if ok then .tuple #[p.1, .bool p.2] else p.1)) w → lookRet ok ei ag rd q = some rr → OpPost P a o w g S fr lv rr := by
        intro E ag es q q' rd rr hrd hfa hrun hl
        cases q with
        | none =>
          simp only [FoundAs] at hfa
          subst hfa
          simp only [lookRet, Option.some.injEq] at hl
          subst hl
          refine post_same hs hrd hrun ?_
          have hz := zeroVal_rep (w := w) (g := g) (os := S.objs) Y'
          cases ok
          · exact P_Op hz
          · exact ⟨[z', .bool false], by simp, .cons hz (.cons (RRep.sc _) .nil)⟩
        | some qq =>
          obtain ⟨i, v, b⟩ := qq
          obtain ⟨ent, k', h1, h2, h3, h4, h5⟩ := hfa
          subst h5
          simp only [lookRet, Option.some.injEq] at hl
          subst hl
          refine post_same hs hrd hrun ?_
          have hz := entVal_rep (os := S.objs) h4
          cases ok
          · exact P_Op hz
          · exact ⟨[ent.val, .bool true], by simp, .cons hz (.cons (RRep.sc _) .nil)⟩
      split at h
      · rename_i hx
        rw [hx] at hvx
        have hvx := OpRep.sc hvx
        cases hko : keyOk P kt true kv <;> rw [hko] at h
        · cases h
        · simp only [cond_true] at h
          have hkk := keyOk_spec hko
          obtain ⟨q', h1, h2⟩ := run_findKey (w := w) (I := g.I) (ag := ei.ag) (E := []) (es := []) hkk .nil rfl
          refine fin [] _ [] none q' .none r rfl h2 ?_ h
          simp only [FoundAs] at h2
          subst h2
          cases ok <;> simp [execOp, ho, Instr.lookup, run_underlyingT hu', hvx, hk, run_checkKey hkk, h1, Y'.run_zero]
      · rename_i p hx
        rw [hx] at hvx
        split at h
        · rename_i ag es cl hp
          cases hko : (keyOk P kt es.isEmpty kv && ag == ei.ag) <;> rw [hko] at h
          · cases h
          · simp only [cond_true] at h
            simp only [Bool.and_eq_true] at hko
            have hkk := keyOk_spec hko.1
            split at h
            · rename_i q hq
              obtain ⟨E, m1, m2, m3⟩ := hs.obj p _ hp
              obtain ⟨q', h1, h2⟩ := run_findKey (w := w) (I := g.I) hkk m2 hq
              have hem : E.isEmpty = es.isEmpty := by
                have := m2.length
                simp only [Array.length_toList] at this
                rw [Bool.eq_iff_iff]
                simp [← List.length_eq_zero_iff, ← Array.size_eq_zero_iff, this]
              refine fin _ _ _ q q' _ r rfl h2 ?_ h
              have hv1 : a.eval x = .map (some (g.mu p)) := hvx.1
              have hck := run_checkKey hkk
              rw [← hem] at hck
              cases ok <;> cases q' <;> simp [execOp, ho, Instr.lookup, run_underlyingT hu', hv1, hk, getMap m1, hck, h1, Y'.run_zero]
            · cases h
        · cases h
      · cases h
    · cases h
  · cases h

omit hs hf in
theorem val_parts {t : TV} {v : Value} {xs : List RV} {S1 : TS} (h : OpRep w g S.objs fr lv v t) (hfz : freezeL S t.cells = some (xs, S1)) :
    ∃ vs, F2 (CRep w g S.objs) vs t.cells ∧ (isAggT t = true → v = .agg vs.toArray) ∧ (isAggT t = false → vs = [v]) := by
  cases t with
  | agg cs =>
    obtain ⟨vs, h1, h2⟩ := h
    exact ⟨vs, h2, fun _ => h1, fun h => by cases h⟩
  | r x => exact ⟨[v], .cons h .nil, fun h => (by cases h), fun _ => rfl⟩
  | sl o off len ver cap => exact ⟨[v], .cons h .nil, fun h => (by cases h), fun _ => rfl⟩
  | fn f cs => exact ⟨[v], .cons h .nil, fun h => (by cases h), fun _ => rfl⟩
  | ptr o off => exact ⟨[v], .cons h .nil, fun h => (by cases h), fun _ => rfl⟩
  | mp o => exact ⟨[v], .cons h .nil, fun h => (by cases h), fun _ => rfl⟩
  | _ => simp [TV.cells, freezeL, freeze1] at hfz

omit hs hf in
theorem F2.set {α β : Type} {R : α → β → Prop} {l : List α} {l' : List β} (h : F2 R l l') {x : α} {y : β} (hr : R x y) : ∀ i, F2 R (l.set i x) (l'.set i y) := by
  induction h with
  | nil => intro i; exact .nil
  | cons h t ih =>
    intro i
    cases i with
    | zero => exact .cons hr t
    | succ i => exact .cons h (ih i)

omit hs hf in
theorem modify_set (E : Array MapEntry) (i : Nat) (f : MapEntry → MapEntry) (e : MapEntry) (h : E.toList[i]? = some e) : (E.modify i f).toList = E.toList.set i (f e) := by
  apply List.ext_getElem?
  intro k
  rw [Array.getElem?_toList] at h
  rw [Array.getElem?_toList, Array.getElem?_modify, List.getElem?_set, Array.length_toList, Array.getElem?_toList]
  by_cases hk : i = k
  · subst hk
    have hlt : i < E.size := by
      rcases Nat.lt_or_ge i E.size with h' | h'
      · exact h'
      · simp [Array.getElem?_eq_none h'] at h
    have he : E[i] = e := by
      have := Array.getElem?_eq_getElem hlt
      rw [h] at this
      exact (Option.some.inj this).symm
    simp [hlt, he]
  · simp [hk]

theorem op_mapUpdate {t : Nat} {ti : TyI} {m k x : Operand} {r : Out} (ho : o.op = .mapUpdate t m k x ∨ o.op = .insert t m k x) (hty : mkTy P t = some ti) (h : mapUpdateT P S ti (operand fr m) (operand fr k) (operand fr x) = some r) : OpPost P a o w g S fr lv r := by
  obtain ⟨inf, u, z, Y⟩ := mkTy_spec hty
  have hu' := Y.und
  have hexec : ∀ w, (execOp a.eval o).run P w = ((Instr.mapUpdate t (a.eval m) (a.eval k) (a.eval x)).run P w).andThen fun _ w' => .ok .skip w' := by
    intro w
    rcases ho with ho | ho <;> simp [execOp, ho]
  unfold mapUpdateT at h
  split at h
  · rename_i kt e kv xs S1 p hd hkv hfz hm
    have hu := mkTD_map (hd ▸ Y.desc)
    rw [hu] at hu'
    have hk := toV_eq (hf k) hkv
    obtain ⟨vs, v1, v2, v3⟩ := val_parts (hf x) hfz
    obtain ⟨g1, x1, s1, r1, m1, n1, q1⟩ := freezeL_rep hs v1 hfz
    have hvm := hf m
    rw [hm] at hvm
    have hvm1 := (OpRep.ext (fr := fr) (lv := lv) x1.imm x1.obj hvm)
    have hv1 : a.eval m = .map (some (g1.mu p)) := hvm1.1
    split at h
    · rename_i ag es cl hp
      cases hb : (ag == isAggT (operand fr x) && keyOk P kt false kv && (ag || Nat.beq xs.length 1)) <;> rw [hb] at h
      · cases h
      · simp only [cond_true] at h
        simp only [Bool.and_eq_true] at hb
        obtain ⟨⟨b1, b2⟩, b3⟩ := hb
        have b1 : ag = isAggT (operand fr x) := by simpa using b1
        have hkk := keyOk_spec b2
        obtain ⟨E, c1, c2, c3⟩ := s1.obj p _ hp
        have hpl := get_lt hp
        -- the entry as it is written
        have hent : ∀ bb, EntRep w g1.I ag { key := kv, val := a.eval x, born := bb } (kv, xs, bb) := by
          intro bb
          refine ⟨rfl, rfl, ?_⟩
          cases hag : ag
          · have := v3 (by rw [← b1, hag])
            subst this
            rw [hag] at b3
            simp only [Bool.false_or] at b3
            have b3 := Nat.eq_of_beq_eq_true b3
            cases r1 with
            | cons hq tq => cases tq; exact ⟨_, rfl, hq⟩
          · exact ⟨vs, v2 (by rw [← b1, hag]), r1⟩
        have fin : ∀ (E' : Array MapEntry) (es' : List (Value × List RV × Nat)) (c' : Nat), F2 (EntRep w g1.I ag) E'.toList es' →
            (Instr.mapUpdate t (a.eval m) (a.eval k) (a.eval x)).run P w = .ok () { w with heap := w.heap.setIfInBounds (g1.mu p) (.map E' c') } →
            OpPost P a o w g S fr lv ⟨.und, .wr [] (p :: (operand fr x).sls) (S1.put p (.map ag es' c'))⟩ := by
          intro E' es' c' hE hrun
          have hBl : g1.mu p < w.heap.size := (s1.obj p _ hp).lt
          obtain ⟨y1, y2⟩ := SRep.set (w' := { w with heap := w.heap.setIfInBounds (g1.mu p) (.map E' c') }) (x' := .map ag es' c') s1 hp (by simp [OExt]) ⟨rfl, rfl, rfl⟩ (by simp) (fun b hb => by simp [Array.getElem?_setIfInBounds, Ne.symm hb]) (fun i hi => absurd hi (c3 i)) (fun hca hO =>
            ⟨E', by simp [Array.getElem?_setIfInBounds, hBl], hE.imp fun _ _ => EntRep.mono (fun b i hi => ⟨hi, hca b i hi⟩), c3⟩)
          exact ⟨undef, _, g1, .inr ⟨by rw [hexec, hrun]; rfl, rfl⟩, x1.trans y1, y2, trivial⟩
        split at h
        · rename_i i v b hq
          obtain ⟨q', h1, h2⟩ := run_findKey (w := w) (I := g1.I) hkk c2 hq
          obtain ⟨ent, k', f1, f2, f3, f4, f5⟩ := h2
          subst f5
          simp only [Nat.sub_zero] at f1 f2
          rw [f2] at h
          simp only [sameKey] at h
          cases hsb : Instr.sameBits 10000 k' kv <;> rw [hsb] at h
          · cases h
          · simp only [cond_true, Option.some.injEq] at h
            subst h
            have hborn : ent.born = b := f4.2.1
            have hek : ent.key = k' := f4.1
            have hEi : E[i]? = some ent := by rw [← Array.getElem?_toList]; exact f1
            refine fin (E.modify i fun e => { e with key := kv, val := a.eval x }) _ cl ?_ ?_
            · rw [modify_set E i _ ent f1]
              refine F2.set c2 ?_ i
              have := hent b
              rw [← hborn] at this ⊢
              exact this
            · simp [Instr.mapUpdate, run_underlyingT hu', hv1, hk, getMap c1, run_checkKey hkk, h1, Instr.keyThatStays, hEi, hek, hsb, setMap _ c1]
        · rename_i hq
          obtain ⟨q', h1, h2⟩ := run_findKey (w := w) (I := g1.I) hkk c2 hq
          simp only [FoundAs] at h2
          subst h2
          simp only [Option.some.injEq] at h
          subst h
          refine fin (E.push { key := kv, val := a.eval x, born := cl }) _ (cl + 1) ?_ ?_
          · rw [Array.toList_push]
            exact c2.append (.cons (hent cl) .nil)
          · simp [Instr.mapUpdate, run_underlyingT hu', hv1, hk, getMap c1, run_checkKey hkk, h1, setMap _ c1]
        · cases h
    · cases h
  · cases h

theorem op_lenMap {c : Call} {t kt e p : Nat} {ti : TyI} {x : Operand} {ag : Bool} {es : List (Value × List RV × Nat)} {cl : Nat} (ho : o.op = .call c) (hc : c.callee = .builtin .len) (hx : c.args.toList = [x]) (ht : c.argTypes[0]? = some t)
    (hty : mkTy P t = some ti) (hd : ti.d = .map kt e) (hm : operand fr x = .mp p) (hp : S.objs[p]? = some (.map ag es cl)) : OpPost P a o w g S fr lv ⟨.r (.sc (.int .i64 (es.length : Nat))), .rd [p]⟩ := by
  obtain ⟨inf, u, z, Y⟩ := mkTy_spec hty
  have hu := mkTD_map (hd ▸ Y.desc)
  have hu' := Y.und
  rw [hu] at hu'
  have hv := hf x
  rw [hm] at hv
  have hv1 : a.eval x = .map (some (g.mu p)) := hv.1
  obtain ⟨E, m1, m2, m3⟩ := hs.obj p _ hp
  have hl := m2.length
  simp only [Array.length_toList] at hl
  have hx' : c.args = #[x] := Array.toList_inj.1 hx
  refine post_same hs rfl (v := .int .i64 (es.length : Nat)) ?_ (RRep.sc _)
  rw [exec_builtin ho hc]
  simp [builtin, Builtin.len_, ht, hx', hv1, run_underlyingT hu', goInt, getMap m1, hl]

end
end Go.TL
/- One operation. -/
namespace Go.TL

section
variable {P : Program} {a : Act} {o : Oper} {w : World} {g : G} {S : TS} {fr : Tr} {lv : Nat → Nat} {b0 base : Nat} {loc : List Nat} {ops : List Oper} {callF : CallF}

theorem FRep.of_Ext {os os' : List TO} {w' : World} {g' : G} {tmps : Array Value} (hF : FRep w g os b0 loc ops fr tmps lv) (x : Ext os w g os' w' g') : FRep w' g' os' b0 loc ops fr tmps lv := by
  refine hF.ext x.imm x.obj (fun d cs hd => ?_) (fun d cs hd o ho => ?_)
  · have hlt := hF.lv_lt hd
    have hout := hF.out d cs hd
    refine ⟨x.frame _ hlt hout, fun i hi => ?_⟩
    rcases x.inew _ _ hi with h | h | ⟨o, h1, h2⟩
    · exact h
    · omega
    · exact absurd h2 (hout o h1)
  · have hlt := hF.lv_lt hd
    by_cases hl : o < os.length
    · rcases x.mu o hl with h | h
      · rw [h]; exact hF.out d cs hd o hl
      · omega
    · have := x.new o (by omega) ho
      omega

/-- A call of a function of the program. -/
def isCallF (o : Oper) : Bool := match o.op with | .call { callee := .value _, .. } => true | _ => false

/-- A variable of the frame's own is made. -/
def LvPost (P : Program) (a : Act) (o : Oper) (w : World) (g : G) (S : TS) (r : Out) : Prop :=
  ∃ d cs, o.dst = some d ∧ r = ⟨.lv cs, .none⟩ ∧ ∃ C e, (execOp a.eval o).run P w = .ok (.value (.pointer (some ⟨w.heap.size, 0, none⟩))) { w with heap := w.heap.push (.cells C e) } ∧ F2 (CRep w g S.objs) C.toList cs
/-- A variable of the frame's own is written. -/
def FeffPost (P : Program) (a : Act) (o : Oper) (w : World) (g : G) (S : TS) (fr : Tr) (lv : Nat → Nat) (r : Out) : Prop :=
  ∃ d cs cs', fr.get d = .lv cs ∧ r = ⟨.und, .feff d cs'⟩ ∧ ∃ C C' e, w.heap[lv d]? = some (.cells C e (0, 0)) ∧ (execOp a.eval o).run P w = .ok .skip (w.setRow (lv d) C') ∧ F2 (CRep w g S.objs) C'.toList cs'

variable (hs : SRep w g S.objs) (hF : FRep w g S.objs b0 loc ops fr a.tmps lv)
include hs hF

theorem op_len {c : Call} {t : Nat} {r : Out} (ho : o.op = .call c) (hc : c.callee = .builtin .len) (h : builtinT P S (operand fr) o .len t ((c.argTypes[1]?).getD 0) (c.args.toList.map (operand fr)) = some r)
    (ht : c.argTypes[0]? = some t) : OpPost P a o w g S fr lv r := by
  have hcl : closedT P (operand fr) o = some r → OpPost P a o w g S fr lv r := op_closed hs hF.operand (by rw [ho]; simp)
  unfold builtinT at h
  split at h
  · contradiction
  · rename_i x h1 h2
    have hx : ∃ y, c.args.toList = [y] ∧ x = operand fr y := by
      cases hq : c.args.toList with
      | nil => rw [hq] at h2; simp at h2
      | cons y ys =>
        rw [hq] at h2
        simp at h2
        exact ⟨y, by rw [h2.2], h2.1.symm⟩
    obtain ⟨y, hy, rfl⟩ := hx
    split at h
    · rename_i hty
      split at h
      · rename_i n hn
        simp only [oval, Option.some.injEq] at h; subst h
        exact op_lenSlice hs hF.operand ho hc hy ht hty rfl hn
      · cases h
    · rename_i hty
      split at h
      · rename_i p hm
        split at h
        · rename_i ag es cl hp
          simp only [Option.some.injEq] at h; subst h
          exact op_lenMap hs hF.operand ho hc hy ht hty rfl hm hp
        · cases h
      · exact hcl h
    · exact hcl h
  all_goals first | contradiction | cases h

theorem op_store {t : Nat} {x y : Operand} {ti : TyI} {r : Out} (ho : o.op = .store t x y) (hty : mkTy P t = some ti) (h : storeT fr S base ti.size (operand fr x) (operand fr y) = some r) :
    (OpPost P a o w g S fr lv r ∧ ∀ d cs, r.eff ≠ .feff d cs) ∨ FeffPost P a o w g S fr lv r := by
  have hf := hF.operand
  unfold storeT at h
  simp only at h
  cases hb : (Nat.beq (operand fr y).cells.length ti.size && (operand fr y).cells.all okCell) <;> rw [hb] at h
  · cases h
  · simp only [cond_true] at h
    simp only [Bool.and_eq_true] at hb
    have hb1 := Nat.eq_of_beq_eq_true hb.1
    split at h
    · rename_i d off hx
      split at h
      · rename_i cs hd
        cases hq : Nat.ble (off + ti.size) cs.length <;> rw [hq] at h
        · cases h
        · simp only [cond_true, Option.some.injEq] at h; subst h
          obtain ⟨inf, u, z, Y⟩ := mkTy_spec hty
          have hv := hf x
          rw [hx] at hv
          have hsl := hF.val d
          rw [hd] at hsl
          obtain ⟨_, ⟨C, e, h1, h2, h3⟩, _⟩ := hsl
          obtain ⟨c1, c2⟩ := cells_rep (hf y) hb.2
          have l1 := c1.length
          have l2 := h2.length
          have hq' := Nat.le_of_ble_eq_true hq
          simp only [Array.length_toList] at l1 l2
          have hrun := run_storeAt (P := P) Y h1 (v := a.eval y) (by omega) (p := off) (by omega) c2
          exact .inr ⟨d, cs, _, hd, rfl, C, (C.toList.take off ++ (a.eval y).cells.toList ++ C.toList.drop (off + ti.size)).toArray, e, h1, by simp [execOp, ho, hv.1, hrun], by simpa using ((h2.take off).append c1).append (h2.drop (off + ti.size))⟩
      · cases h
    · rename_i p off hx
      split at h
      · rename_i cs hp
        cases hq : Nat.ble (off + ti.size) cs.length <;> rw [hq] at h
        · cases h
        · simp only [cond_true, Option.some.injEq] at h; subst h
          exact .inl ⟨op_store_ptr hs hF ho hty hx hp hb1 hb.2 (Nat.le_of_ble_eq_true hq), by simp⟩
      · cases h
    · rename_i p idx off ver hx
      split at h
      · rename_i xs S1 hfz
        split at h
        · rename_i sz es w2 frz hp
          cases hq : (Nat.beq w2 ver && Nat.ble frz idx) <;> rw [hq] at h
          · cases h
          · simp only [cond_true] at h
            simp only [Bool.and_eq_true] at hq
            have hq1 := Nat.eq_of_beq_eq_true hq.1
            subst hq1
            split at h
            · rename_i cs hcs
              cases hq2 : Nat.ble (off + ti.size) cs.length <;> rw [hq2] at h
              · cases h
              · simp only [cond_true, Option.some.injEq] at h; subst h
                exact .inl ⟨op_store_ap hs hF ho hty hx hb1 hb.2 hfz hp (Nat.le_of_ble_eq_true hq.2) hcs (Nat.le_of_ble_eq_true hq2), by simp⟩
            · cases h
        · cases h
      · cases h
    · cases h

theorem op_post {r : Out} (h : opT P loc callF base fr S o = some r) (hnc : isCallF o = false) (hnl : ¬ LvPost P a o w g S r) (hnf : ¬ FeffPost P a o w g S fr lv r)
    : OpPost P a o w g S fr lv r := by
  have hf := hF.operand
  have hcl : (∀ cs b, o.op ≠ .select cs b) → closedT P (operand fr) o = some r → OpPost P a o w g S fr lv r := fun h1 h2 => op_closed hs hf h1 h2
  unfold opT at h
  split at h
  · rename_i x ho
    simp only [oval, Option.some.injEq] at h; subst h
    exact op_move hs hf (.inl ho)
  · rename_i x ho
    simp only [oval, Option.some.injEq] at h; subst h
    exact op_move hs hf (.inr ho)
  · rename_i c x y ho
    split at h
    · rename_i t ht
      simp only [oval, Option.some.injEq] at h; subst h
      exact op_pick hs hf ho ht
    · cases h
  · rename_i t ho
    split at h
    · rename_i i d hty hd
      cases hl : loc.contains d <;> simp only [hl, cond_true, cond_false] at h
      · simp only [Option.some.injEq] at h; subst h
        exact op_alloc_push hs ho hty
      · simp only [oval, Option.some.injEq] at h; subst h
        obtain ⟨inf, u, z, Y⟩ := mkTy_spec hty
        exact absurd ⟨d, _, hd, rfl, z.cells, t, by simp [execOp, ho, Instr.alloc, Y.run_zero, newVar, newRow], zero_rep Y.zero⟩ hnl
    · cases h
  · rename_i t x ho
    split at h
    · rename_i d hd
      cases hk : (operand fr x).cells.all okCell <;> simp only [hk, cond_true, cond_false] at h
      · cases h
      · cases hl : loc.contains d <;> simp only [hl, cond_true, cond_false] at h
        · simp only [Option.some.injEq] at h; subst h
          obtain ⟨c1, c2⟩ := cells_rep (hf x) hk
          refine post_push (r := 0) (ob := .cells (a.eval x).cells t) (v := .pointer (some ⟨w.heap.size, 0, none⟩)) hs ?_ (box_ORep hs c1) ⟨by simp [G.push], _, List.getElem?_concat_length⟩
          simp [execOp, ho, Instr.box, newVar, newRow]
        · simp only [oval, Option.some.injEq] at h; subst h
          obtain ⟨c1, c2⟩ := cells_rep (hf x) hk
          exact absurd ⟨d, _, hd, rfl, (a.eval x).cells, t, by simp [execOp, ho, Instr.box, newVar, newRow], c1⟩ hnl
    · cases h
  · rename_i t parts ho
    split at h
    · rename_i ti hty
      split at h
      · rename_i fs hd
        split at h
        · rename_i ps hps
          dsimp only at h
          cases hfl : fillT (ti.zero.map fun c => TV.r (.sc c)) ps with
          | none => rw [hfl] at h; cases h
          | some cs =>
            rw [hfl] at h
            simp only [Option.bind_some, oval, Option.some.injEq] at h; subst h
            exact op_build hs hf ho hty (.inl ⟨fs, hd, rfl⟩) hps hfl
        · cases h
      · rename_i n e hd
        split at h
        · rename_i ei hte
          split at h
          · rename_i ps hps
            dsimp only at h
            cases hfl : fillT (ti.zero.map fun c => TV.r (.sc c)) ps with
            | none => rw [hfl] at h; cases h
            | some cs =>
              rw [hfl] at h
              simp only [Option.bind_some, oval, Option.some.injEq] at h; subst h
              exact op_build hs hf ho hty (.inr ⟨n, e, ei, hd, hte, rfl⟩) hps hfl
          · cases h
        · cases h
      · cases h
    · cases h
  · rename_i t len parts ho
    split at h
    · rename_i e hty
      split at h
      · rename_i ei hte
        cases hb : (Nat.ble 1 ei.size && Nat.ble (len * ei.size) 16777216) <;> rw [hb] at h
        · cases h
        · simp only [cond_true] at h
          simp only [Bool.and_eq_true] at hb
          split at h
          · rename_i ps hps
            split at h
            · rename_i cs hfl
              split at h
              · rename_i xs S1 hfz
                simp only [Option.some.injEq] at h; subst h
                refine op_buildSlice hs hf ho hty rfl hte (Nat.le_of_ble_eq_true hb.1) (Nat.le_of_ble_eq_true hb.2) hps hfl hfz ?_
                split
                · rename_i hsl
                  rw [freezeL_same hsl hfz]; rfl
                · rfl
              · cases h
            · cases h
          · cases h
      · cases h
    · cases h
  · rename_i t x ho
    split at h
    · rename_i ti hty
      exact op_load hs hF ho hty h
    · cases h
  · rename_i t x y ho
    split at h
    · rename_i ti hty
      rcases op_store hs hF ho hty h with h1 | h1
      · exact h1.1
      · exact absurd h1 hnf
    · cases h
  · rename_i x ho
    split at h
    · rename_i d off hx
      simp only [oval, Option.some.injEq] at h; subst h
      rw [← hx]; exact op_nilCheck hs hf ho (.inl ⟨_, _, hx⟩)
    · rename_i cs off hx
      simp only [oval, Option.some.injEq] at h; subst h
      rw [← hx]; exact op_nilCheck hs hf ho (.inr (.inl ⟨_, _, hx⟩))
    · rename_i p off hx
      simp only [oval, Option.some.injEq] at h; subst h
      rw [← hx]; exact op_nilCheck hs hf ho (.inr (.inr (.inl ⟨_, _, hx⟩)))
    · rename_i p i off v hx
      simp only [oval, Option.some.injEq] at h; subst h
      rw [← hx]; exact op_nilCheck hs hf ho (.inr (.inr (.inr (.inl ⟨_, _, _, _, hx⟩))))
    · rename_i f cs hx
      simp only [oval, Option.some.injEq] at h; subst h
      rw [← hx]; exact op_nilCheck hs hf ho (.inr (.inr (.inr (.inr ⟨_, _, hx⟩))))
    · cases h
  · rename_i b t x y q ho
    exact op_bin hs hf ho h
  · rename_i op t x ho
    split at h
    · rename_i b hx
      simp only [oval, Option.some.injEq] at h; subst h
      exact op_not hs hf ho hx
    · exact hcl (by rw [ho]; simp) h
  · rename_i ho
    exact hcl (by rw [ho]; simp) h
  · rename_i gf first captured ho
    cases hb : (first.isEmpty && (captured.toList.map (operand fr)).all okRef) <;> simp only [hb, cond_true, cond_false] at h
    · cases h
    · simp only [oval, Option.some.injEq] at h; subst h
      simp only [Bool.and_eq_true] at hb
      exact op_makeFunc hs hf ho hb.1 hb.2
  · rename_i t r' ho
    split at h
    · rename_i hty
      split at h
      · rename_i ei hte
        simp only [Option.some.injEq] at h; subst h
        exact op_makeMap hs ho
      · cases h
    · cases h
  · rename_i t lx cx ho
    split at h
    · rename_i e l c hty hl hc
      split at h
      · rename_i ei hte
        cases hb : (Nat.ble l c && Nat.ble (c * ei.bytes) roomT && Nat.ble c roomT) <;> rw [hb] at h
        · cases h
        · simp only [cond_true] at h
          simp only [Bool.and_eq_true] at hb
          exact op_makeSlice hs hf ho hty rfl hte hl hc (Nat.le_of_ble_eq_true hb.1.1) (Nat.le_of_ble_eq_true hb.1.2) (Nat.le_of_ble_eq_true hb.2) h
      · cases h
    · cases h
  · rename_i t x lo hi mx ho
    split at h
    · rename_i e hty
      split at h
      · rename_i ei hte
        exact op_slice hs hf ho hty rfl hte h
      · cases h
    · exact hcl (by rw [ho]; simp) h
    · cases h
  · rename_i s x i ho
    split at h
    · rename_i ti hty
      cases ht : fieldAddrT ti (operand fr x) i with
      | none => rw [ht] at h; cases h
      | some t =>
        rw [ht] at h
        simp only [ovalO, oval, Option.some.injEq] at h; subst h
        exact op_fieldAddr hs hf ho hty ht
    · cases h
  · rename_i s x i ho
    split at h
    · rename_i fs cs hty hx
      split at h
      · rename_i off n ag hfs
        cases ht : partC n ag cs off with
        | none => rw [ht] at h; cases h
        | some t =>
          rw [ht] at h
          simp only [ovalO, oval, Option.some.injEq] at h; subst h
          exact op_field hs hf ho hty rfl hx hfs ht
      · cases h
    · cases h
  · rename_i s x i ho
    split at h
    · rename_i ti k hty hi
      exact op_indexAddr hs hf ho hty hi h
    · cases h
  · rename_i s x i ho
    split at h
    · rename_i len e cs hty hx
      split at h
      · rename_i k ei hi hte
        cases hk : inRange k len <;> rw [hk] at h
        · cases h
        · simp only [cond_true] at h
          cases ht : partC ei.size ei.ag cs (k.toNat * ei.size) with
          | none => rw [ht] at h; cases h
          | some t =>
            rw [ht] at h
            simp only [ovalO, oval, Option.some.injEq] at h; subst h
            exact op_index hs hf ho hty rfl hte hx hi hk ht
      · cases h
    · exact hcl (by rw [ho]; simp) h
    · cases h
  · rename_i t x k ok ho
    split at h
    · rename_i ti hty
      exact op_lookup hs hf ho hty h
    · cases h
  · rename_i t m k x ho
    split at h
    · rename_i ti hty
      exact op_mapUpdate hs hf (.inl ho) hty h
    · cases h
  · rename_i t m k x ho
    split at h
    · rename_i ti hty
      exact op_mapUpdate hs hf (.inr ho) hty h
    · cases h
  · rename_i x i ho
    split at h
    · rename_i ts hx
      cases ht : ts[i]? with
      | none => rw [ht] at h; cases h
      | some t =>
        rw [ht] at h
        simp only [ovalO, oval, Option.some.injEq] at h; subst h
        exact op_extract hs hf ho hx ht
    · cases h
  · rename_i c ho
    split at h
    · rename_i b hc
      have hsel : ∀ cs b, o.op ≠ .select cs b := by rw [ho]; simp
      split at h
      · rename_i t ht
        cases b <;> first
          | (unfold builtinT at h; simp only at h; exact hcl hsel h)
          | (unfold builtinT at h; simp only at h; cases h)
          | exact op_len hs hF ho hc h ht
          | skip
        unfold builtinT at h
        split at h
        · rename_i s x h1 h2
          have hx : ∃ y z, c.args.toList = [y, z] ∧ s = operand fr y ∧ x = operand fr z := by
            cases hq : c.args.toList with
            | nil => rw [hq] at h2; simp at h2
            | cons y ys =>
              rw [hq] at h2
              cases ys with
              | nil => simp at h2
              | cons z zs => simp at h2; exact ⟨y, z, by rw [h2.2.2], h2.1.symm, h2.2.1.symm⟩
          obtain ⟨y, z, hyz, rfl, rfl⟩ := hx
          split at h
          · rename_i hty hty1
            exact op_append hs hf ho hc hyz ht hty rfl rfl hty1 rfl h
          · cases h
        all_goals first | contradiction | cases h
      · cases h
    · rename_i gg hc
      obtain ⟨callee, args, ats⟩ := c
      simp only at hc
      subst hc
      simp [isCallF, ho] at hnc
    · cases h
  · cases h

end
end Go.TL
