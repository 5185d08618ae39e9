/- walk.Twice and its reference: the reference's Check always answers. -/
import Derived.Test.YtbobgmjenekahaaGreatP1
import Derived.Test.YtbobgmjenekahaaGreatTH
set_option linter.unusedVariables false
set_option linter.unusedSimpArgs false
namespace Go.TL.Pr
open Go.TL
set_option maxRecDepth 10000

theorem near_tot (l : List Pt) (h : l.length ≤ 1048576) : Tot (r08_Near l) := by
  refine Tot.bind ?_ fun x _ => Tot.sumK (fun _ _ => .mk _) fun _ _ => .mk _
  refine loopI0_tot (body := r08_Near_L0b l) l.length (fun i hi => ?_) fun i j hi hb => ?_
  · unfold r08_Near_L0b
    refine Tot.ite (fun hc => Tot.bind (Tot.at_ (by omega) hc) fun y _ => ?_) fun _ => .mk _
    repeat' first | exact Tot.mk _ | refine Tot.ite (fun _ => ?_) fun _ => ?_
  · unfold r08_Near_L0b at hb
    split at hb
    · rename_i hc
      obtain ⟨e, _, hb⟩ := obind hb
      repeat' split at hb
      all_goals first | (cases hb; done) | (cases hb; exact ⟨by omega, w64_succ (by omega)⟩)
    · cases hb
theorem cross_tot (a b c d : Pt) : Tot (r08_cross a b c d) := .mk _
theorem dot_tot (a b c d : Pt) : Tot (r08_dot a b c d) := .mk _
theorem on_tot (a b c : Pt) : Tot (r08_On a b c) := by
  unfold r08_On
  refine Tot.bind (near_tot _ (by simp)) fun _ _ => ?_
  repeat' first | exact Tot.mk _ | exact cross_tot _ _ _ _ | exact dot_tot _ _ _ _ | refine Tot.ite (fun _ => ?_) fun _ => ?_ | refine Tot.bind ?_ fun _ _ => ?_
theorem first_tot (a b : Pt) : Tot (r08_first a b) := by
  unfold r08_first
  repeat' first | exact Tot.mk _ | refine Tot.ite (fun _ => ?_) fun _ => ?_
theorem shared_tot (a b c d : Pt) : Tot (r08_shared a b c d) := by
  unfold r08_shared
  repeat' first | exact Tot.mk _ | exact first_tot _ _ | refine Tot.ite (fun _ => ?_) fun _ => ?_ | refine Tot.bind ?_ fun _ _ => ?_
theorem meet_tot (a b c d : Pt) : Tot (r08_Meet a b c d) := by
  unfold r08_Meet
  refine Tot.bind (near_tot _ (by simp)) fun _ _ => ?_
  repeat' first | exact Tot.mk _ | exact cross_tot _ _ _ _ | exact shared_tot _ _ _ _ | refine Tot.ite (fun _ => ?_) fun _ => ?_ | refine Tot.bind ?_ fun _ _ => ?_
theorem apart_tot (s t : r14_Segment) : Tot (r14_apart s t) := by
  unfold r14_apart
  refine Tot.bind (meet_tot _ _ _ _) fun _ _ => ?_
  repeat' first | exact Tot.mk _ | refine Tot.ite (fun _ => ?_) fun _ => ?_
theorem ends_tot (a : Arc) (i : Int) : Tot (r14_ends a i) := by
  unfold r14_ends
  repeat' first | exact Tot.mk _ | refine Tot.ite (fun _ => ?_) fun _ => ?_
theorem joined_tot {p : Plan} (hp : p.Ok) (s t : r14_Segment) : Tot (r14_joined p s t) := by
  unfold r14_joined
  refine Tot.bind (meet_tot _ _ _ _) fun _ _ => Tot.ite (fun _ => .mk _) fun _ => ?_
  refine Tot.bind ?_ fun x _ => Tot.sumK (fun _ _ => .mk _) fun _ _ => .mk _
  have := hp.nl
  refine loopI0_tot (body := r14_joined_L0b p s t) p.nodes.length (fun i hi => ?_) fun i j hi hb => ?_
  · unfold r14_joined_L0b
    refine Tot.ite (fun hc => Tot.bind (Tot.at_ (by omega) hc) fun y _ => ?_) fun _ => .mk _
    repeat' first | exact Tot.mk _ | exact ends_tot _ _ | exact on_tot _ _ _ | refine Tot.ite (fun _ => ?_) fun _ => ?_ | refine Tot.bind ?_ fun _ _ => ?_
  · unfold r14_joined_L0b at hb
    split at hb
    · rename_i hc
      obtain ⟨e, _, hb⟩ := obind hb
      obtain ⟨y1, _, hb⟩ := obind hb
      split at hb
      · obtain ⟨y2, _, hb⟩ := obind hb
        split at hb
        · obtain ⟨y3, _, hb⟩ := obind hb
          split at hb
          · obtain ⟨y4, _, hb⟩ := obind hb
            split at hb <;> first | (cases hb; done) | (cases hb; exact ⟨by omega, w64_succ (by omega)⟩)
          · cases hb; exact ⟨by omega, w64_succ (by omega)⟩
        · cases hb; exact ⟨by omega, w64_succ (by omega)⟩
      · cases hb; exact ⟨by omega, w64_succ (by omega)⟩
    · cases hb
theorem alone_tot {p : Plan} (hp : p.Ok) (s : r14_Segment) : Tot (r14_alone p s) := by
  unfold r14_alone
  refine Tot.bind ?_ fun x _ => Tot.sumK (fun _ _ => .mk _) fun _ _ => ?_
  · have := hp.nl
    refine loopI0_tot (body := r14_alone_L0b p s) p.nodes.length (fun i hi => ?_) fun i j hi hb => ?_
    · unfold r14_alone_L0b
      refine Tot.ite (fun hc => Tot.bind (Tot.at_ (by omega) hc) fun y _ => ?_) fun _ => .mk _
      repeat' first | exact Tot.mk _ | exact on_tot _ _ _ | refine Tot.ite (fun _ => ?_) fun _ => ?_ | refine Tot.bind ?_ fun _ _ => ?_
    · unfold r14_alone_L0b at hb
      split at hb
      · rename_i hc
        obtain ⟨e, _, hb⟩ := obind hb
        repeat' split at hb
        all_goals first
          | (cases hb; exact ⟨by omega, w64_succ (by omega)⟩)
          | (obtain ⟨y, _, hb⟩ := obind hb
             split at hb <;> first | (cases hb; done) | (cases hb; exact ⟨by omega, w64_succ (by omega)⟩))
      · cases hb
  · repeat' first | exact Tot.mk _ | refine Tot.ite (fun _ => ?_) fun _ => ?_
end Go.TL.Pr
/- The reference's Check answers for every small plan; OK means that the arcs' numbers are positive. -/
namespace Go.TL.Pr
open Go.TL
set_option maxRecDepth 10000

structure Small (p : Plan) : Prop where
  nl : p.nodes.length ≤ 40
  al : p.arcs.length ≤ 40
  fl : p.faces.length ≤ 80
  vl : ∀ a, a ∈ p.arcs → a.via.length ≤ 300

theorem small_fold (p : Plan) (hp : p.Ok) (hl : p.arcs.length ≤ 40) : r15_Small_L0 p (0, 0) = some (foldE (fun (s : Int) (a : Arc) => if ((a.via.length : Int)) > 300 then (Sum.inr (Sum.inl ()) : Int ⊕ (Unit ⊕ Int)) else .inl (s + a.via.length)) (fun s => .inr s) p.arcs 0) := by
  refine loopO_fold0 (body := r15_Small_L0b p) (st := fun i s => (s, (i : Int))) (fun i s => 0 ≤ s ∧ s ≤ i * 300) (fun i a s hg hI => ?_) (fun s hI => ?_) ⟨by omega, by omega⟩
  · have hlt := get_lt hg
    have hat : at_ p.arcs (i : Int) = some a := hg
    have h1 : (i : Int) < (p.arcs.length : Int) := by omega
    simp only [r15_Small_L0b, h1, if_true, hat, Option.bind_some]
    by_cases hc : (a.via.length : Int) > 300
    · simp only [hc, if_true, stepK]
      exact ⟨trivial, fun s' h => by cases h⟩
    · simp only [hc, if_false, stepK]
      rw [w64_id (by omega) (by omega), w64_succ (by omega)]
      refine ⟨rfl, fun s' h => ?_⟩
      cases h
      omega
  · have h1 : ¬ ((p.arcs.length : Int) < (p.arcs.length : Int)) := by omega
    simp only [r15_Small_L0b, h1, if_false]
theorem small_step (l : List Arc) : ∀ (s : Int) (r : Int), foldE (fun (s : Int) (a : Arc) => if ((a.via.length : Int)) > 300 then (Sum.inr (Sum.inl ()) : Int ⊕ (Unit ⊕ Int)) else .inl (s + a.via.length)) (fun s => .inr s) l s = .inr r → ∀ a, a ∈ l → a.via.length ≤ 300 := by
  induction l with
  | nil => intro s r _ a ha; cases ha
  | cons b l ih =>
    intro s r h a ha
    rw [foldE] at h
    by_cases hc : (b.via.length : Int) > 300
    · simp only [hc, if_true] at h; cases h
    · simp only [hc, if_false] at h
      cases ha with
      | head => omega
      | tail _ ha => exact ih _ r h a ha
theorem small_ans {p : Plan} (hp : p.Ok) : ∃ b, r15_Small p = some b ∧ (b = true → Small p) := by
  unfold r15_Small
  by_cases h1 : ((p.nodes.length : Int)) > 40
  · rw [if_pos h1]; exact ⟨false, rfl, fun h => by cases h⟩
  rw [if_neg h1]
  by_cases h2 : ((p.arcs.length : Int)) > 40
  · rw [if_pos h2]; exact ⟨false, rfl, fun h => by cases h⟩
  rw [if_neg h2]
  by_cases h3 : ((p.faces.length : Int)) > 80
  · rw [if_pos h3]; exact ⟨false, rfl, fun h => by cases h⟩
  rw [if_neg h3, small_fold p hp (by omega), Option.bind_some]
  cases hf : foldE (fun (s : Int) (a : Arc) => if ((a.via.length : Int)) > 300 then (Sum.inr (Sum.inl ()) : Int ⊕ (Unit ⊕ Int)) else .inl (s + a.via.length)) (fun s => .inr s) p.arcs 0 with
  | inl r => cases r; exact ⟨false, rfl, fun h => by cases h⟩
  | inr r => exact ⟨_, rfl, fun _ => ⟨by omega, by omega, by omega, small_step _ _ _ hf⟩⟩

theorem limits_tot {p : Plan} (hp : p.Ok) : Tot (r14_limits p) := by
  unfold r14_limits
  have := hp.al
  refine Tot.bind ?_ fun x _ => Tot.sumK (fun _ _ => .mk _) fun _ _ => ?_
  · refine loopI0_tot (body := r14_limits_L0b p) p.arcs.length (fun i hi => ?_) fun i j hi hb => ?_
    · unfold r14_limits_L0b
      refine Tot.ite (fun hc => Tot.bind (Tot.at_ (by omega) hc) fun y _ => ?_) fun _ => .mk _
      exact Tot.ite (fun _ => .mk _) fun _ => .mk _
    · unfold r14_limits_L0b at hb
      split at hb
      · obtain ⟨e, _, hb⟩ := obind hb
        split at hb <;> first | (cases hb; done) | (cases hb; exact ⟨by omega, w64_succ (by omega)⟩)
      · cases hb
  · repeat' first | exact Tot.mk _ | refine Tot.ite (fun _ => ?_) fun _ => ?_
theorem asc_tot (l : List Int) (h : l.length ≤ 1048576) : Tot (r14_ascending l) := by
  unfold r14_ascending
  refine Tot.bind ?_ fun x _ => Tot.sumK (fun _ _ => .mk _) fun _ _ => .mk _
  show Tot (loopO (r14_ascending_L0b l) 1)
  by_cases h0 : l.length = 0
  · refine ⟨.inr (), loopO_done ?_⟩
    have : ¬ ((1 : Int) < (l.length : Int)) := by omega
    simp only [r14_ascending_L0b, this, if_false]
  refine loopI_tot (body := r14_ascending_L0b l) 1 l.length (fun i hm hi => ?_) (fun i j hm hi hb => ?_) (l.length - 1) 1 (by omega) (by omega)
  · unfold r14_ascending_L0b
    refine Tot.ite (fun hc => Tot.bind (Tot.at_ (by rw [w64_id] <;> omega) (by rw [w64_id] <;> omega)) fun y _ => Tot.bind (Tot.at_ (by omega) hc) fun y _ => ?_) fun _ => .mk _
    exact Tot.ite (fun _ => .mk _) fun _ => .mk _
  · unfold r14_ascending_L0b at hb
    split at hb
    · obtain ⟨e, _, hb⟩ := obind hb
      obtain ⟨e, _, hb⟩ := obind hb
      split at hb <;> first | (cases hb; done) | (cases hb; exact ⟨by omega, w64_succ (by omega)⟩)
    · cases hb
theorem node_tot {p : Plan} (hp : p.Ok) (d : Int) : Tot (r14_Node p d) := by
  unfold r14_Node
  refine Tot.bind ?_ fun x _ => Tot.sumK (fun _ _ => .mk _) fun _ _ => .mk _
  have hn := hp.nl
  have h := loopO_fold0 (body := r14_Node_L0b p d) (l := p.nodes) (st := fun i (_ : Unit) => ((0 : Int), (0 : Int), (0 : Int), (i : Int))) (step := fun _ (e : Node) => if e.id = d then .inr (Sum.inl (e.id, e.pt.x, e.pt.y)) else .inl ()) (fin := fun _ => Sum.inr (0, 0, 0)) (fun _ _ => True) (fun i a s hg _ => ?_) (fun s _ => ?_) (s := ()) trivial
  · exact ⟨_, h⟩
  · have hlt := get_lt hg
    have hat : at_ p.nodes (i : Int) = some a := hg
    have h1 : (i : Int) < (p.nodes.length : Int) := by omega
    simp only [r14_Node_L0b, h1, if_true, hat, Option.bind_some]
    by_cases hc : a.id = d
    · simp only [hc, if_true, stepK]; exact ⟨trivial, fun _ _ => trivial⟩
    · simp only [hc, if_false, stepK, w64_succ (show i < 9223372036854775807 by omega)]; exact ⟨trivial, fun _ _ => trivial⟩
  · have h1 : ¬ ((p.nodes.length : Int) < (p.nodes.length : Int)) := by omega
    simp only [r14_Node_L0b, h1, if_false]
theorem line_tot {p : Plan} (hp : p.Ok) (a : Arc) (ha : a.via.length ≤ 1048576) : ∃ r, r14_line p a = some r ∧ r.1.length ≤ a.via.length + 2 := by
  unfold r14_line
  obtain ⟨y1, h1⟩ := node_tot hp a.frm
  obtain ⟨y2, h2⟩ := node_tot hp a.to
  rw [h1, Option.bind_some, h2, Option.bind_some, appO_ok (by simp; omega) (by omega), Option.bind_some, appO_ok (by simp; omega) (by omega), Option.bind_some]
  split
  · exact ⟨_, rfl, by simp⟩
  · exact ⟨_, rfl, by simp⟩
theorem face_tot {p : Plan} (hp : p.Ok) (d : Int) : Tot (r14_Face p d) := by
  unfold r14_Face
  have := hp.fl
  refine Tot.bind ?_ fun x _ => Tot.sumK (fun _ _ => .mk _) fun _ _ => .mk _
  refine loopI0_tot (body := r14_Face_L0b p d) p.faces.length (fun i hi => ?_) fun i j hi hb => ?_
  · unfold r14_Face_L0b
    refine Tot.ite (fun hc => Tot.bind (Tot.at_ (by omega) hc) fun y _ => ?_) fun _ => .mk _
    exact Tot.ite (fun _ => .mk _) fun _ => .mk _
  · unfold r14_Face_L0b at hb
    split at hb
    · obtain ⟨e, _, hb⟩ := obind hb
      split at hb <;> first | (cases hb; done) | (cases hb; exact ⟨by omega, w64_succ (by omega)⟩)
    · cases hb
theorem twice_tot {p : Plan} (hp : p.Ok) : Tot (r14_twice p) := by
  unfold r14_twice
  have := hp.nl
  have inner : ∀ i : Nat, i < p.nodes.length → Tot (r14_twice_L0 p (i : Int) 0) := by
    intro n hn
    refine loopI0_tot (body := r14_twice_L0b p (n : Int)) n (fun i hi => ?_) fun i j hi hb => ?_
    · unfold r14_twice_L0b
      refine Tot.ite (fun hc => Tot.bind (Tot.at_ (by omega) (by omega)) fun y _ => Tot.bind (Tot.at_ (by omega) (by omega)) fun y _ => ?_) fun _ => .mk _
      exact Tot.ite (fun _ => .mk _) fun _ => .mk _
    · unfold r14_twice_L0b at hb
      split at hb
      · obtain ⟨e, _, hb⟩ := obind hb
        obtain ⟨e, _, hb⟩ := obind hb
        split at hb <;> first | (cases hb; done) | (cases hb; exact ⟨by omega, w64_succ (by omega)⟩)
      · cases hb
  refine Tot.bind ?_ fun x _ => Tot.sumK (fun _ _ => .mk _) fun _ _ => .mk _
  refine loopI0_tot (body := r14_twice_L1b p) p.nodes.length (fun i hi => ?_) fun i j hi hb => ?_
  · unfold r14_twice_L1b
    refine Tot.ite (fun hc => Tot.bind (inner i (by omega)) fun x _ => Tot.sumK (fun _ _ => .mk _) fun _ _ => .mk _) fun _ => .mk _
  · unfold r14_twice_L1b at hb
    split at hb
    · obtain ⟨x, _, hb⟩ := obind hb
      cases x <;> simp only [sumK_inl, sumK_inr] at hb <;> first | (cases hb; done) | (cases hb; exact ⟨by omega, w64_succ (by omega)⟩)
    · cases hb
end Go.TL.Pr
/- The reference's Check answers for every small plan; OK means that the arcs' numbers are positive. -/
namespace Go.TL.Pr
open Go.TL
set_option maxRecDepth 10000

/-- Collecting in a list. -/
def col {α β : Type} (g : α → List β) (s : List β) (a : α) : (List β) ⊕ Empty := .inl (s ++ g a)
theorem fold_col {α β ρ : Type} (g : α → List β) (fin : List β → ρ) : ∀ (l : List α) (s : List β), foldE (fun s a => (.inl (s ++ g a) : List β ⊕ ρ)) fin l s = fin (s ++ l.flatMap g)
  | [], s => by simp [foldE]
  | a :: l, s => by
    have := fold_col (ρ := ρ) g fin l (s ++ g a)
    simp only [foldE, List.flatMap_cons]
    rw [this, List.append_assoc]

theorem ids_false {p : Plan} (hp : p.Ok) : r14_ids p false = some (p.nodes.map (·.id)) := by
  have hn := hp.nl
  have h0 : r14_ids_L0 p (false, [], 0) = some (false, p.nodes.map (·.id)) := by
    have h := loopO_fold0 (body := r14_ids_L0b p) (l := p.nodes) (st := fun i s => (false, s, (i : Int))) (step := fun s (a : Node) => (.inl (s ++ [a.id]) : List Int ⊕ (Bool × List Int))) (fin := fun s => (false, s)) (fun i s => s.length = i) (fun i a s hg hI => ?_) (fun s hI => ?_) (s := []) rfl
    · rw [fold_col] at h
      have e : p.nodes.flatMap (fun a => [a.id]) = p.nodes.map (·.id) := by induction p.nodes <;> simp_all
      rw [List.nil_append, e] at h
      exact h
    · have hlt := get_lt hg
      have hat : at_ p.nodes (i : Int) = some a := hg
      have h1 : (i : Int) < (p.nodes.length : Int) := by omega
      have h2 : appO 8 s [a.id] = some (s ++ [a.id]) := appO_ok (by simp; omega) (by omega)
      simp only [r14_ids_L0b, h1, if_true, hat, Option.bind_some, h2, stepK, w64_succ (show i < 9223372036854775807 by omega), Bool.false_eq_true, if_false]
      exact ⟨trivial, fun s' h => by cases h; simp [hI]⟩
    · have h1 : ¬ ((p.nodes.length : Int) < (p.nodes.length : Int)) := by omega
      simp only [r14_ids_L0b, h1, if_false]
  have h1 : ∀ l, r14_ids_L1 p (false, l, 0) = some l := by
    intro l
    refine loopO_done ?_
    simp only [r14_ids_L1b]
    by_cases hc : (0 : Int) < (p.arcs.length : Int) <;> simp [hc]
  simp only [r14_ids, h0, Option.bind_some, h1]
theorem ids_true {p : Plan} (hp : p.Ok) : r14_ids p true = some (p.arcs.map (·.id)) := by
  have hn := hp.al
  have h0 : r14_ids_L0 p (true, [], 0) = some (true, []) := by
    refine loopO_done ?_
    simp only [r14_ids_L0b]
    by_cases hc : (0 : Int) < (p.nodes.length : Int) <;> simp [hc]
  have h1 : r14_ids_L1 p (true, [], 0) = some (p.arcs.map (·.id)) := by
    have h := loopO_fold0 (body := r14_ids_L1b p) (l := p.arcs) (st := fun i s => (true, s, (i : Int))) (step := fun s (a : Arc) => (.inl (s ++ [a.id]) : List Int ⊕ (List Int))) (fin := fun s => s) (fun i s => s.length = i) (fun i a s hg hI => ?_) (fun s hI => ?_) (s := []) rfl
    · rw [fold_col] at h
      have e : p.arcs.flatMap (fun a => [a.id]) = p.arcs.map (·.id) := by induction p.arcs <;> simp_all
      rw [List.nil_append, e] at h
      exact h
    · have hlt := get_lt hg
      have hat : at_ p.arcs (i : Int) = some a := hg
      have h1 : (i : Int) < (p.arcs.length : Int) := by omega
      have h2 : appO 8 s [a.id] = some (s ++ [a.id]) := appO_ok (by simp; omega) (by omega)
      simp only [r14_ids_L1b, h1, if_true, hat, Option.bind_some, h2, stepK, w64_succ (show i < 9223372036854775807 by omega)]
      exact ⟨trivial, fun s' h => by cases h; simp [hI]⟩
    · have h1 : ¬ ((p.arcs.length : Int) < (p.arcs.length : Int)) := by omega
      simp only [r14_ids_L1b, h1, if_false]
  simp only [r14_ids, h0, Option.bind_some, h1]
theorem points_tot {p : Plan} (hp : p.Ok) (sm : Small p) : ∃ l, r14_Points p = some l ∧ l.length ≤ 13000 := by
  have h1 := sm.nl
  have h2 := sm.al
  have e0 : r14_Points_L0 p ([], 0) = some (p.nodes.flatMap fun a => [a.pt]) := by
    have h := loopO_fold0 (body := r14_Points_L0b p) (l := p.nodes) (st := fun i s => (s, (i : Int))) (step := fun s (a : Node) => (.inl (s ++ [a.pt]) : List Pt ⊕ (List Pt))) (fin := fun s => s) (fun i s => s.length = i) (fun i a s hg hI => ?_) (fun s hI => ?_) (s := []) rfl
    · rw [fold_col] at h; rwa [List.nil_append] at h
    · have hlt := get_lt hg
      have hat : at_ p.nodes (i : Int) = some a := hg
      have h1 : (i : Int) < (p.nodes.length : Int) := by omega
      have h2 : appO 16 s [a.pt] = some (s ++ [a.pt]) := appO_ok (by simp; omega) (by omega)
      simp only [r14_Points_L0b, h1, if_true, hat, Option.bind_some, h2, stepK, w64_succ (show i < 9223372036854775807 by omega)]
      exact ⟨trivial, fun s' h => by cases h; simp [hI]⟩
    · have h1 : ¬ ((p.nodes.length : Int) < (p.nodes.length : Int)) := by omega
      simp only [r14_Points_L0b, h1, if_false]
  have l0 : (p.nodes.flatMap fun a => [a.pt]).length ≤ 40 := by
    have : ∀ l : List Node, (l.flatMap fun a => [a.pt]).length = l.length := by intro l; induction l <;> simp_all
    rw [this]; exact h1
  have h := loopO_fold0 (body := r14_Points_L1b p) (l := p.arcs) (st := fun i s => (s, (i : Int))) (step := fun s (a : Arc) => (.inl (s ++ a.via) : List Pt ⊕ (List Pt))) (fin := fun s => s) (fun i s => s.length ≤ 40 + i * 300) (fun i a s hg hI => ?_) (fun s hI => ?_) (s := p.nodes.flatMap fun a => [a.pt]) (by omega)
  · have h' : r14_Points_L1 p (p.nodes.flatMap fun a => [a.pt], 0) = _ := h
    rw [fold_col] at h'
    refine ⟨(p.nodes.flatMap fun a => [a.pt]) ++ p.arcs.flatMap fun a => a.via, by simp only [r14_Points, e0, Option.bind_some, h'], ?_⟩
    have hv : ∀ l : List Arc, (∀ a, a ∈ l → a.via.length ≤ 300) → (l.flatMap fun a => a.via).length ≤ l.length * 300 := by
      intro l hl
      induction l with
      | nil => simp
      | cons a l ih =>
        have := hl a (by simp)
        have := ih fun b hb => hl b (by simp [hb])
        simp only [List.flatMap_cons, List.length_append, List.length_cons]; omega
    have := hv p.arcs sm.vl
    rw [List.length_append]; omega
  · have hlt := get_lt hg
    have hv := sm.vl a (List.mem_of_getElem? hg)
    have hat : at_ p.arcs (i : Int) = some a := hg
    have h1 : (i : Int) < (p.arcs.length : Int) := by omega
    have h2 : appO 16 s a.via = some (s ++ a.via) := appO_ok (by omega) (by omega)
    simp only [r14_Points_L1b, h1, if_true, hat, Option.bind_some, h2, stepK, w64_succ (show i < 9223372036854775807 by omega)]
    exact ⟨trivial, fun s' h => by cases h; rw [List.length_append]; omega⟩
  · have h1 : ¬ ((p.arcs.length : Int) < (p.arcs.length : Int)) := by omega
    simp only [r14_Points_L1b, h1, if_false]
theorem valid_tot (a : Pt) : Tot (r14_Valid a) := by
  unfold r14_Valid
  repeat' first | exact Tot.mk _ | refine Tot.ite (fun _ => ?_) fun _ => ?_
theorem ranges_step (l : List Int) : foldE (fun (_ : Unit) (e : Int) => if e < 1 then (.inr (.inl ()) : Unit ⊕ (Unit ⊕ Unit)) else if e > 1073741824 then .inr (.inl ()) else .inl ()) (fun _ => .inr ()) l () = .inr () → ∀ e, e ∈ l → 1 ≤ e ∧ e ≤ 1073741824 := by
  induction l with
  | nil => intro _ e he; cases he
  | cons b l ih =>
    intro h e he
    rw [foldE] at h
    by_cases h1 : b < 1
    · simp only [h1, if_true] at h; cases h
    by_cases h2 : b > 1073741824
    · simp only [h1, h2, if_true, if_false] at h; cases h
    simp only [h1, h2, if_false] at h
    cases he with
    | head => omega
    | tail _ he => exact ih h e he
theorem ranges_ans {p : Plan} (hp : p.Ok) (sm : Small p) : ∃ b, r14_ranges p = some b ∧ (b = true → ∀ a, a ∈ p.arcs → 1 ≤ a.id ∧ a.id ≤ 1073741824) := by
  have h1 := sm.nl
  have h2 := sm.al
  have h3 := sm.fl
  unfold r14_ranges
  rw [ids_false hp, Option.bind_some, ids_true hp, Option.bind_some, appO_ok (by simp; omega) (by omega), Option.bind_some, appO_ok (by simp; omega) (by omega), Option.bind_some]
  have hL : ∀ l : List Int, l.length ≤ 1048576 → r14_ranges_L0 p (l, 0) = some (foldE (fun (_ : Unit) (e : Int) => if e < 1 then (.inr (.inl ()) : Unit ⊕ (Unit ⊕ Unit)) else if e > 1073741824 then .inr (.inl ()) else .inl ()) (fun _ => .inr ()) l ()) := by
    intro l hl
    refine loopO_fold0 (body := r14_ranges_L0b p) (l := l) (st := fun i (_ : Unit) => (l, (i : Int))) (fun _ _ => True) (fun i a s hg _ => ?_) (fun s _ => ?_) trivial
    · have hlt := get_lt hg
      have hat : at_ l (i : Int) = some a := hg
      have h1 : (i : Int) < (l.length : Int) := by omega
      simp only [r14_ranges_L0b, h1, if_true, hat, Option.bind_some, w64_succ (show i < 9223372036854775807 by omega)]
      refine ⟨?_, fun _ _ => trivial⟩
      split
      · rfl
      · split <;> rfl
    · have h1 : ¬ ((l.length : Int) < (l.length : Int)) := by omega
      simp only [r14_ranges_L0b, h1, if_false]
  rw [hL _ (by simp; omega), Option.bind_some]
  cases hf : foldE (fun (_ : Unit) (e : Int) => if e < 1 then (.inr (.inl ()) : Unit ⊕ (Unit ⊕ Unit)) else if e > 1073741824 then .inr (.inl ()) else .inl ()) (fun _ => .inr ()) (p.nodes.map (·.id) ++ p.arcs.map (·.id) ++ p.faces) () with
  | inl r => exact ⟨false, rfl, fun h => by cases h⟩
  | inr r =>
    have hall := ranges_step _ hf
    have htot : Tot ((r14_Points p).bind fun y3 => ((r14_ranges_L1 y3 0).bind (fun x2 => sumK x2 (fun _ => some false) (fun _ => some true)))) := by
      obtain ⟨l, hl, hb⟩ := points_tot hp sm
      refine Tot.bind ⟨l, hl⟩ fun y hy => ?_
      rw [hl] at hy; cases hy
      refine Tot.bind ?_ fun x _ => Tot.sumK (fun _ _ => .mk _) fun _ _ => .mk _
      refine loopI0_tot (body := r14_ranges_L1b l) l.length (fun i hi => ?_) fun i j hi hb => ?_
      · unfold r14_ranges_L1b
        refine Tot.ite (fun hc => Tot.bind (Tot.at_ (by omega) hc) fun y _ => Tot.bind (valid_tot _) fun y _ => ?_) fun _ => .mk _
        exact Tot.ite (fun _ => .mk _) fun _ => .mk _
      · unfold r14_ranges_L1b at hb
        split at hb
        · obtain ⟨e, _, hb⟩ := obind hb
          obtain ⟨e, _, hb⟩ := obind hb
          split at hb <;> first | (cases hb; done) | (cases hb; exact ⟨by omega, w64_succ (by omega)⟩)
        · cases hb
    obtain ⟨b, hb⟩ := htot
    refine ⟨b, hb, fun _ a ha => hall a.id ?_⟩
    simp only [List.mem_append, List.mem_map]
    exact .inl (.inr ⟨a, ha, rfl⟩)

theorem seg_tot {p : Plan} (hp : p.Ok) (sm : Small p) : ∃ l, r14_Segments p = some l ∧ l.length ≤ 13000 := by
  have h2 := sm.al
  have inner : ∀ (n : Nat) (y : List Pt × Bool) (l : List r14_Segment), n < p.arcs.length → y.1.length ≤ 302 → l.length ≤ n * 302 → ∃ r, r14_Segments_L0 p (n : Int) y (l, 0) = some r ∧ r.length ≤ (n + 1) * 302 := by
    intro n y l hn hy hl
    obtain ⟨a, ha, _⟩ := at_lt hn
    have key : ∀ (k i : Nat) (l : List r14_Segment), i + k = y.1.length → l.length ≤ n * 302 + i → ∃ r, loopO (r14_Segments_L0b p (n : Int) y) (l, (i : Int)) = some r ∧ r.length ≤ (n + 1) * 302 := by
      intro k
      induction k with
      | zero =>
        intro i l hk hl
        refine ⟨l, loopO_done ?_, by omega⟩
        have : ¬ (w64 ((i : Int) + 1) < (y.1.length : Int)) := by rw [w64_succ (by omega)]; omega
        simp only [r14_Segments_L0b, this, if_false]
      | succ k ih =>
        intro i l hk hl
        by_cases hc : i + 1 < y.1.length
        · obtain ⟨u, hu, _⟩ := at_lt (l := y.1) (i := i) (by omega)
          obtain ⟨v, hv, _⟩ := at_lt hc
          have hc' : ((i + 1 : Nat) : Int) < (y.1.length : Int) := by omega
          obtain ⟨r, hr, hb⟩ := ih (i + 1) (l ++ [r14_Segment.mk a i (w64 ((y.1.length : Int) - 1)) u v]) (by omega) (by simp; omega)
          refine ⟨r, ?_, hb⟩
          rw [← hr]
          refine loopO_step ?_
          simp only [r14_Segments_L0b, w64_succ (show i < 9223372036854775807 by omega), hc', if_true, ha, hu, hv, Option.bind_some]
          rw [appO_ok (by simp; omega) (by omega), Option.bind_some]
        · refine ⟨l, loopO_done ?_, by omega⟩
          have : ¬ (w64 ((i : Int) + 1) < (y.1.length : Int)) := by rw [w64_succ (by omega)]; omega
          simp only [r14_Segments_L0b, this, if_false]
    exact key y.1.length 0 l (by omega) (by omega)
  have outer : ∀ (k i : Nat) (l : List r14_Segment), i + k = p.arcs.length → l.length ≤ i * 302 → ∃ r, loopO (r14_Segments_L1b p) (l, (i : Int)) = some r ∧ r.length ≤ 13000 := by
    intro k
    induction k with
    | zero =>
      intro i l hk hl
      refine ⟨l, loopO_done ?_, by omega⟩
      have : ¬ ((i : Int) < (p.arcs.length : Int)) := by omega
      simp only [r14_Segments_L1b, this, if_false]
    | succ k ih =>
      intro i l hk hl
      obtain ⟨a, ha, hg⟩ := at_lt (l := p.arcs) (i := i) (by omega)
      have hv := sm.vl a (List.mem_of_getElem? hg)
      obtain ⟨y, hy, hyl⟩ := line_tot hp a (by omega)
      obtain ⟨r1, hr1, hb1⟩ := inner i y l (by omega) (by omega) hl
      obtain ⟨r, hr, hb⟩ := ih (i + 1) r1 (by omega) hb1
      refine ⟨r, ?_, hb⟩
      rw [← hr]
      refine loopO_step ?_
      have hc : (i : Int) < (p.arcs.length : Int) := by omega
      simp only [r14_Segments_L1b, hc, if_true, ha, Option.bind_some, hy, hr1, w64_succ (show i < 9223372036854775807 by omega)]
  obtain ⟨r, hr, hb⟩ := outer p.arcs.length 0 [] (by omega) (by simp)
  refine ⟨r, ?_, hb⟩
  have hr' : r14_Segments_L1 p ([], 0) = some r := hr
  simp only [r14_Segments, hr', Option.bind_some]
theorem planar_tot {p : Plan} (hp : p.Ok) (sm : Small p) : Tot (r14_planar p) := by
  unfold r14_planar
  obtain ⟨l, hl, hb⟩ := seg_tot hp sm
  rw [hl, Option.bind_some]
  refine Tot.bind ?_ fun x _ => Tot.sumK (fun _ _ => .mk _) fun _ _ => .mk _
  have inner : ∀ n : Nat, n < l.length → Tot (r14_planar_L0 p l (n : Int) 0) := by
    intro n hn
    refine loopI0_tot (body := r14_planar_L0b p l (n : Int)) n (fun i hi => ?_) fun i j hi hb => ?_
    · unfold r14_planar_L0b
      refine Tot.ite (fun hc => Tot.bind (Tot.at_ (by omega) (by omega)) fun y _ => Tot.bind (Tot.at_ (by omega) (by omega)) fun y _ => ?_) fun _ => .mk _
      repeat' first | exact Tot.mk _ | exact apart_tot _ _ | exact joined_tot hp _ _ | refine Tot.ite (fun _ => ?_) fun _ => ?_ | refine Tot.bind ?_ fun _ _ => ?_
    · unfold r14_planar_L0b at hb
      split at hb
      · obtain ⟨e, _, hb⟩ := obind hb
        obtain ⟨e', _, hb⟩ := obind hb
        split at hb
        · obtain ⟨y, _, hb⟩ := obind hb
          split at hb <;> first | (cases hb; done) | (cases hb; exact ⟨by omega, w64_succ (by omega)⟩)
        · obtain ⟨y, _, hb⟩ := obind hb
          split at hb <;> first | (cases hb; done) | (cases hb; exact ⟨by omega, w64_succ (by omega)⟩)
      · cases hb
  refine loopI0_tot (body := r14_planar_L1b p l) l.length (fun i hi => ?_) fun i j hi hb => ?_
  · unfold r14_planar_L1b
    refine Tot.ite (fun hc => Tot.bind (Tot.at_ (by omega) hc) fun y _ => Tot.bind (alone_tot hp _) fun y _ => ?_) fun _ => .mk _
    refine Tot.ite (fun _ => Tot.bind (inner i (by omega)) fun x _ => Tot.sumK (fun _ _ => .mk _) fun _ _ => .mk _) fun _ => .mk _
  · unfold r14_planar_L1b at hb
    split at hb
    · obtain ⟨e, _, hb⟩ := obind hb
      obtain ⟨y, _, hb⟩ := obind hb
      split at hb
      · obtain ⟨x, _, hb⟩ := obind hb
        cases x <;> simp only [sumK_inl, sumK_inr] at hb <;> first | (cases hb; done) | (cases hb; exact ⟨by omega, w64_succ (by omega)⟩)
      · cases hb
    · cases hb
theorem check_ans {p : Plan} (hp : p.Ok) (sm : Small p) : ∃ e, r14_Check p = some e ∧ (e = 0 → ∀ a, a ∈ p.arcs → 1 ≤ a.id ∧ a.id ≤ 1073741824) := by
  have al := hp.al
  unfold r14_Check
  obtain ⟨b1, h1⟩ := limits_tot hp
  rw [h1, Option.bind_some]
  split
  · exact ⟨3, rfl, fun h => by cases h⟩
  rw [ids_false hp, Option.bind_some]
  obtain ⟨b2, h2⟩ := asc_tot (p.nodes.map (·.id)) (by simpa using hp.nl)
  rw [h2, Option.bind_some]
  split
  case isFalse => exact ⟨10, rfl, fun h => by cases h⟩
  rw [ids_true hp, Option.bind_some]
  obtain ⟨b3, h3⟩ := asc_tot (p.arcs.map (·.id)) (by simpa using hp.al)
  rw [h3, Option.bind_some]
  split
  case isFalse => exact ⟨10, rfl, fun h => by cases h⟩
  obtain ⟨b4, h4⟩ := asc_tot p.faces hp.fl
  rw [h4, Option.bind_some]
  split
  case isFalse => exact ⟨10, rfl, fun h => by cases h⟩
  obtain ⟨b5, h5, hpos⟩ := ranges_ans hp sm
  rw [h5, Option.bind_some]
  split
  case isFalse => exact ⟨2, rfl, fun h => by cases h⟩
  rename_i hb5
  obtain ⟨b6, h6⟩ := twice_tot hp
  rw [h6, Option.bind_some]
  split
  · exact ⟨8, rfl, fun h => by cases h⟩
  have rest : Tot ((r14_Check_L0 p 0).bind (fun x1 => sumK x1 (fun _ => some (7 : Int)) (fun _ => ((r14_Check_L1 p 0).bind (fun x2 => sumK x2 (fun _ => some 12) (fun _ => ((r14_planar p).bind fun y18 => (if y18 = true then some 0 else some 11)))))))) := by
    refine Tot.bind ?_ fun x _ => Tot.sumK (fun _ _ => .mk _) fun _ _ => Tot.bind ?_ fun x _ => Tot.sumK (fun _ _ => .mk _) fun _ _ => Tot.bind (planar_tot hp sm) fun _ _ => Tot.ite (fun _ => .mk _) fun _ => .mk _
    · refine loopI0_tot (body := r14_Check_L0b p) p.arcs.length (fun i hi => ?_) fun i j hi hb => ?_
      · unfold r14_Check_L0b
        refine Tot.ite (fun hc => Tot.bind (Tot.at_ (by omega) hc) fun y hy => Tot.bind ?_ fun y _ => Tot.ite (fun _ => .mk _) fun _ => .mk _) fun _ => .mk _
        obtain ⟨n, _, hg⟩ := at_some hy
        obtain ⟨r, hr, _⟩ := line_tot hp y (hp.vl y (List.mem_of_getElem? hg))
        exact ⟨r, hr⟩
      · unfold r14_Check_L0b at hb
        split at hb
        · obtain ⟨e, _, hb⟩ := obind hb
          obtain ⟨e, _, hb⟩ := obind hb
          split at hb <;> first | (cases hb; done) | (cases hb; exact ⟨by omega, w64_succ (by omega)⟩)
        · cases hb
    · refine loopI0_tot (body := r14_Check_L1b p) p.arcs.length (fun i hi => ?_) fun i j hi hb => ?_
      · unfold r14_Check_L1b
        refine Tot.ite (fun hc => Tot.bind (Tot.at_ (by omega) hc) fun y hy => Tot.bind (face_tot hp _) fun y _ => Tot.ite (fun _ => Tot.bind (face_tot hp _) fun _ _ => Tot.ite (fun _ => .mk _) fun _ => .mk _) fun _ => .mk _) fun _ => .mk _
      · unfold r14_Check_L1b at hb
        split at hb
        · obtain ⟨e, _, hb⟩ := obind hb
          obtain ⟨e, _, hb⟩ := obind hb
          split at hb
          · obtain ⟨e, _, hb⟩ := obind hb
            split at hb <;> first | (cases hb; done) | (cases hb; exact ⟨by omega, w64_succ (by omega)⟩)
          · cases hb
        · cases hb
  obtain ⟨e, he⟩ := rest
  exact ⟨e, he, fun _ => hpos hb5⟩
end Go.TL.Pr
/- Nodes, arcs and paths: the program and the reference agree. -/
namespace Go.TL.Pr
open Go.TL
set_option maxRecDepth 10000

theorem w64_eq {a b : Int} (h : (a - b) % 18446744073709551616 = 0) : w64 a = w64 b := by
  have e : (2 : Int) ^ 64 = 18446744073709551616 := by decide
  have e' : (2 : Int) ^ 63 = 9223372036854775808 := by decide
  simp only [w64, IntKind.wrap, IntKind.bits, IntKind.signed, e, e', Nat.reduceSub]
  simp
  split <;> split <;> omega
theorem w64_mod (a : Int) : (w64 a - a) % 18446744073709551616 = 0 := by
  have e : (2 : Int) ^ 64 = 18446744073709551616 := by decide
  have e' : (2 : Int) ^ 63 = 9223372036854775808 := by decide
  simp only [w64, IntKind.wrap, IntKind.bits, IntKind.signed, e, e', Nat.reduceSub]
  simp
  split <;> omega
theorem w64_w64 (a : Int) : w64 (w64 a) = w64 a := w64_eq (w64_mod a)

theorem index_arc (l : List Arc) (c : Int) (hl : l.length ≤ 1048576) : sl_IndexFunc_Arc l (fun x => some (x.id == c)) = some (idxOf (fun a => a.id == c) l) := by
  have h := loopO_fold0 (body := sl_IndexFunc_Arc_L0b (fun x => some (x.id == c)) l) (l := l) (st := fun i (j : Nat) => ((i : Nat) : Int)) (step := fun (j : Nat) (a : Arc) => if (a.id == c) = true then (.inr (.inl (j : Int)) : Nat ⊕ (Int ⊕ Unit)) else .inl (j + 1)) (fin := fun _ => .inr ()) (fun i j => i = j) (fun i a s hg hI => ?_) (fun s hI => ?_) (s := 0) rfl
  · have key : ∀ (l : List Arc) (j : Nat), foldE (fun (j : Nat) (a : Arc) => if (a.id == c) = true then (.inr (.inl (j : Int)) : Nat ⊕ (Int ⊕ Unit)) else .inl (j + 1)) (fun _ => .inr ()) l j = match l.findIdx? (fun a => a.id == c) with | some i => .inl ((j + i : Nat) : Int) | none => .inr () := by
      intro l
      induction l with
      | nil => intro j; rfl
      | cons a l ih =>
        intro j
        rw [foldE, List.findIdx?_cons]
        cases ha : (a.id == c)
        · simp only [Bool.false_eq_true, if_false, ih]
          cases l.findIdx? (fun a => a.id == c) with
          | none => rfl
          | some i => simp only [Option.map_some]; congr 2; omega
        · simp
    have h' : sl_IndexFunc_Arc_L0 (fun x => some (x.id == c)) l 0 = _ := h
    rw [sl_IndexFunc_Arc, h', Option.bind_some, key]
    unfold idxOf
    cases l.findIdx? (fun a => a.id == c) with
    | none => rfl
    | some i => simp [sumK]
  · subst hI
    have hlt := get_lt hg
    have hat : at_ l (i : Int) = some a := hg
    have h1 : (i : Int) < (l.length : Int) := by omega
    simp only [sl_IndexFunc_Arc_L0b, h1, if_true, hat, Option.bind_some, w64_succ (show i < 9223372036854775807 by omega)]
    cases ha : (a.id == c)
    · simp only [Bool.false_eq_true, if_false, stepK]; exact ⟨trivial, fun s' h => by cases h; rfl⟩
    · simp only [if_true, stepK]; exact ⟨trivial, fun s' h => by cases h⟩
  · have h1 : ¬ ((l.length : Int) < (l.length : Int)) := by omega
    simp only [sl_IndexFunc_Arc_L0b, h1, if_false]
theorem index_node (l : List Node) (c : Int) (hl : l.length ≤ 1048576) : sl_IndexFunc_Node l (fun x => some (x.id == c)) = some (idxOf (fun a => a.id == c) l) := by
  have h := loopO_fold0 (body := sl_IndexFunc_Node_L0b (fun x => some (x.id == c)) l) (l := l) (st := fun i (j : Nat) => ((i : Nat) : Int)) (step := fun (j : Nat) (a : Node) => if (a.id == c) = true then (.inr (.inl (j : Int)) : Nat ⊕ (Int ⊕ Unit)) else .inl (j + 1)) (fin := fun _ => .inr ()) (fun i j => i = j) (fun i a s hg hI => ?_) (fun s hI => ?_) (s := 0) rfl
  · have key : ∀ (l : List Node) (j : Nat), foldE (fun (j : Nat) (a : Node) => if (a.id == c) = true then (.inr (.inl (j : Int)) : Nat ⊕ (Int ⊕ Unit)) else .inl (j + 1)) (fun _ => .inr ()) l j = match l.findIdx? (fun a => a.id == c) with | some i => .inl ((j + i : Nat) : Int) | none => .inr () := by
      intro l
      induction l with
      | nil => intro j; rfl
      | cons a l ih =>
        intro j
        rw [foldE, List.findIdx?_cons]
        cases ha : (a.id == c)
        · simp only [Bool.false_eq_true, if_false, ih]
          cases l.findIdx? (fun a => a.id == c) with
          | none => rfl
          | some i => simp only [Option.map_some]; congr 2; omega
        · simp
    have h' : sl_IndexFunc_Node_L0 (fun x => some (x.id == c)) l 0 = _ := h
    rw [sl_IndexFunc_Node, h', Option.bind_some, key]
    unfold idxOf
    cases l.findIdx? (fun a => a.id == c) with
    | none => rfl
    | some i => simp [sumK]
  · subst hI
    have hlt := get_lt hg
    have hat : at_ l (i : Int) = some a := hg
    have h1 : (i : Int) < (l.length : Int) := by omega
    simp only [sl_IndexFunc_Node_L0b, h1, if_true, hat, Option.bind_some, w64_succ (show i < 9223372036854775807 by omega)]
    cases ha : (a.id == c)
    · simp only [Bool.false_eq_true, if_false, stepK]; exact ⟨trivial, fun s' h => by cases h; rfl⟩
    · simp only [if_true, stepK]; exact ⟨trivial, fun s' h => by cases h⟩
  · have h1 : ¬ ((l.length : Int) < (l.length : Int)) := by omega
    simp only [sl_IndexFunc_Node_L0b, h1, if_false]

def fN (p : Plan) (d : Int) : Option Node := p.nodes.find? (fun a => a.id == d)
def fA (p : Plan) (d : Int) : Option Arc := p.arcs.find? (fun a => a.id == d)
def nodeV : Option Node → Node × Bool
  | some n => (n, true)
  | none => (⟨0, ⟨0, 0⟩⟩, false)
def arcV : Option Arc → Arc × Bool
  | some n => (n, true)
  | none => (⟨0, 0, 0, [], 0, 0⟩, false)
theorem node_plan {p : Plan} (hp : p.Ok) (d : Int) : plan_Node p d = some (nodeV (fN p d)) := by
  simp only [plan_Node, plan_Node_c1, index_node _ _ hp.nl, Option.bind_some, fN]
  rcases idxOf_cases (fun a : Node => a.id == d) p.nodes with ⟨h1, h2⟩ | ⟨i, a, h1, h2, h3⟩
  · rw [h1, h2]; rfl
  · have hn : ¬ ((i : Int) < 0) := by omega
    rw [h1, h3, if_neg hn, at_nat, h2]; rfl
theorem arc_plan {p : Plan} (hp : p.Ok) (d : Int) : plan_Arc p d = some (arcV (fA p d)) := by
  simp only [plan_Arc, plan_Arc_c1, index_arc _ _ hp.al, Option.bind_some, fA]
  rcases idxOf_cases (fun a : Arc => a.id == d) p.arcs with ⟨h1, h2⟩ | ⟨i, a, h1, h2, h3⟩
  · rw [h1, h2]; rfl
  · have hn : ¬ ((i : Int) < 0) := by omega
    have hv := hp.vl a (List.mem_of_getElem? h2)
    rw [h1, h3, if_neg hn, at_nat, h2, Option.bind_some, appO_ok (by simp; omega) (by omega)]; rfl
theorem arc_walk {p : Plan} (hp : p.Ok) (d : Int) : walk_arc p d = some (arcV (if (if d < 0 then w64 (0 - d) else d) ≤ 0 then none else fA p (if d < 0 then w64 (0 - d) else d))) := by
  have key : ∀ e : Int, ((sl_IndexFunc_Arc p.arcs (fun x0 => walk_arc_c1 x0 e)).bind fun y1 => (if y1 < 0 then some ((Arc.mk 0 0 0 (([] : List Pt)) 0 0), false) else ((at_ p.arcs y1).bind fun e1 => some (e1, true)))) = some (arcV (fA p e)) := by
    intro e
    simp only [walk_arc_c1, index_arc _ _ hp.al, Option.bind_some, fA]
    rcases idxOf_cases (fun a : Arc => a.id == e) p.arcs with ⟨h1, h2⟩ | ⟨i, a, h1, h2, h3⟩
    · rw [h1, h2]; rfl
    · have hn : ¬ ((i : Int) < 0) := by omega
      rw [h1, h3, if_neg hn, at_nat, h2]; rfl
  unfold walk_arc
  by_cases h1 : d < 0
  · simp only [h1, if_true]
    by_cases h2 : w64 (0 - d) ≤ 0
    · simp only [h2, if_true]; rfl
    · simp only [h2, if_false]; exact key _
  · simp only [h1, if_false]
    by_cases h2 : d ≤ 0
    · simp only [h2, if_true]; rfl
    · simp only [h2, if_false]; exact key _

theorem node_ref {p : Plan} (hp : p.Ok) (d : Int) : r14_Node p d = some (nodeV (fN p d)) := by
  have hn := hp.nl
  have h := loopO_fold0 (body := r14_Node_L0b p d) (l := p.nodes) (st := fun i (_ : Unit) => ((0 : Int), (0 : Int), (0 : Int), (i : Int))) (step := fun _ (e : Node) => if e.id = d then (.inr (.inl (e.id, e.pt.x, e.pt.y)) : Unit ⊕ ((Int × Int × Int) ⊕ (Int × Int × Int))) else .inl ()) (fin := fun _ => Sum.inr (0, 0, 0)) (fun _ _ => True) (fun i a s hg _ => ?_) (fun s _ => ?_) (s := ()) trivial
  · have key : ∀ l : List Node, foldE (fun _ (e : Node) => if e.id = d then (.inr (.inl (e.id, e.pt.x, e.pt.y)) : Unit ⊕ ((Int × Int × Int) ⊕ (Int × Int × Int))) else .inl ()) (fun _ => Sum.inr (0, 0, 0)) l () = match l.find? (fun a => a.id == d) with | some n => .inl (n.id, n.pt.x, n.pt.y) | none => .inr (0, 0, 0) := by
      intro l
      induction l with
      | nil => rfl
      | cons a l ih =>
        rw [foldE, List.find?_cons]
        by_cases hc : a.id = d
        · have hc' : (a.id == d) = true := by simpa using hc
          rw [if_pos hc, hc']
        · have hc' : (a.id == d) = false := by simpa using hc
          simp only [hc, if_false, hc', ih]
    have h' : r14_Node_L0 p d (0, 0, 0, 0) = _ := h
    rw [r14_Node, h', Option.bind_some, key]
    unfold fN
    cases p.nodes.find? (fun a => a.id == d) <;> rfl
  · have hlt := get_lt hg
    have hat : at_ p.nodes (i : Int) = some a := hg
    have h1 : (i : Int) < (p.nodes.length : Int) := by omega
    simp only [r14_Node_L0b, h1, if_true, hat, Option.bind_some]
    by_cases hc : a.id = d
    · simp only [hc, if_true, stepK]; exact ⟨trivial, fun _ _ => trivial⟩
    · simp only [hc, if_false, stepK, w64_succ (show i < 9223372036854775807 by omega)]; exact ⟨trivial, fun _ _ => trivial⟩
  · have h1 : ¬ ((p.nodes.length : Int) < (p.nodes.length : Int)) := by omega
    simp only [r14_Node_L0b, h1, if_false]
theorem arc_ref {p : Plan} (hp : p.Ok) (d : Int) : r14_Arc p d = some (arcV (fA p d)) := by
  have hn := hp.al
  let st0 := fun (i : Nat) (_ : Unit) => ((0 : Int), (0 : Int), (0 : Int), ([] : List Pt), (0 : Int), (0 : Int), (i : Int))
  have h := loopO_fold0 (body := r14_Arc_L0b p d) (l := p.arcs) (st := st0) (step := fun _ (e : Arc) => if e.id = d then (.inr (.inl (e.id, e.frm, e.to, e.via, e.left, e.right)) : Unit ⊕ ((Int × Int × Int × List Pt × Int × Int) ⊕ (Int × Int × Int × List Pt × Int × Int))) else .inl ()) (fin := fun _ => Sum.inr (0, 0, 0, [], 0, 0)) (fun _ _ => True) (fun i a s hg _ => ?_) (fun s _ => ?_) (s := ()) trivial
  · have key : ∀ l : List Arc, foldE (fun _ (e : Arc) => if e.id = d then (.inr (.inl (e.id, e.frm, e.to, e.via, e.left, e.right)) : Unit ⊕ ((Int × Int × Int × List Pt × Int × Int) ⊕ (Int × Int × Int × List Pt × Int × Int))) else .inl ()) (fun _ => Sum.inr (0, 0, 0, [], 0, 0)) l () = match l.find? (fun a => a.id == d) with | some e => .inl (e.id, e.frm, e.to, e.via, e.left, e.right) | none => .inr (0, 0, 0, [], 0, 0) := by
      intro l
      induction l with
      | nil => rfl
      | cons a l ih =>
        rw [foldE, List.find?_cons]
        by_cases hc : a.id = d
        · have hc' : (a.id == d) = true := by simpa using hc
          rw [if_pos hc, hc']
        · have hc' : (a.id == d) = false := by simpa using hc
          simp only [hc, if_false, hc', ih]
    have h' : r14_Arc_L0 p d (0, 0, 0, [], 0, 0, 0) = _ := h
    rw [r14_Arc, h', Option.bind_some, key]
    unfold fA
    cases p.arcs.find? (fun a => a.id == d) <;> rfl
  · have hlt := get_lt hg
    have hv := hp.vl a (List.mem_of_getElem? hg)
    have hat : at_ p.arcs (i : Int) = some a := hg
    have h1 : (i : Int) < (p.arcs.length : Int) := by omega
    simp only [st0, r14_Arc_L0b, h1, if_true, hat, Option.bind_some]
    by_cases hc : a.id = d
    · simp only [hc, if_true, stepK]
      rw [appO_ok (by simp; omega) (by omega), Option.bind_some, List.nil_append]
      exact ⟨rfl, fun _ _ => trivial⟩
    · simp only [hc, if_false, stepK, w64_succ (show i < 9223372036854775807 by omega)]; exact ⟨trivial, fun _ _ => trivial⟩
  · have h1 : ¬ ((p.arcs.length : Int) < (p.arcs.length : Int)) := by omega
    simp only [st0, r14_Arc_L0b, h1, if_false]
def joinN (a : Arc) : Option Node → Option Node → Option (List Pt)
  | some u, some v => some (u.pt :: a.via ++ [v.pt])
  | _, _ => none
def pathO (p : Plan) (d : Int) : Option (List Pt) :=
  match fA p d with
  | none => none
  | some a => joinN a (fN p a.frm) (fN p a.to)
def pathV : Option (List Pt) → List Pt × Int
  | some l => (l, 0)
  | none => ([], 7)
theorem path_plan {p : Plan} (hp : p.Ok) (d : Int) : plan_Path p d = some (pathV (pathO p d)) := by
  simp only [plan_Path, arc_plan hp, node_plan hp, Option.bind_some, pathO]
  cases ha : fA p d with
  | none => rfl
  | some a =>
    have hv := hp.vl a (List.mem_of_find?_eq_some ha)
    have key : ∀ x y : Option Node, (if (nodeV x).2 = true then (if (nodeV y).2 = true then ((appO 16 (([] : List Pt)) (([(nodeV x).1.pt] : List Pt))).bind fun l1 => ((appO 16 l1 a.via).bind fun l2 => ((appO 16 l2 (([(nodeV y).1.pt] : List Pt))).bind fun l3 => some (l3, (0 : Int))))) else some (([] : List Pt), 7)) else some (([] : List Pt), 7)) = some (pathV (joinN a x y)) := by
      intro x y
      cases x with
      | none => rfl
      | some u =>
        cases y with
        | none => rfl
        | some v =>
          simp only [nodeV, if_true]
          rw [appO_ok (by simp) (by omega), Option.bind_some, appO_ok (by simp; omega) (by omega), Option.bind_some, appO_ok (by simp; omega) (by omega), Option.bind_some]
          rfl
    simp only [arcV, if_true]
    exact key _ _
theorem path_ref {p : Plan} (hp : p.Ok) (d : Int) : r14_Path p d = some (pathV (pathO p d)) := by
  simp only [r14_Path, arc_ref hp, Option.bind_some, pathO]
  cases ha : fA p d with
  | none => rfl
  | some a =>
    have hv := hp.vl a (List.mem_of_find?_eq_some ha)
    have key : ∀ x y : Option Node, ((if (nodeV x).2 = true then some (((([(nodeV x).1.pt] : List Pt) ++ a.via) ++ ([(nodeV y).1.pt] : List Pt)), (nodeV y).2) else some (((([(nodeV x).1.pt] : List Pt) ++ a.via) ++ ([(nodeV y).1.pt] : List Pt)), false)).bind fun y2 => (if y2.2 = true then some (y2.1, (0 : Int)) else some (([] : List Pt), 7))) = some (pathV (joinN a x y)) := by
      intro x y
      cases x <;> cases y <;> rfl
    simp only [arcV, if_true, r14_line, node_ref hp, Option.bind_some]
    rw [appO_ok (by simp; omega) (by omega), Option.bind_some, appO_ok (by simp; omega) (by omega), Option.bind_some]
    exact key _ _
end Go.TL.Pr
/- WalkTwice: the two sums agree. -/
namespace Go.TL.Pr
open Go.TL
set_option maxRecDepth 10000

/-- Twice the signed area beside a path, exactly. -/
def area : List Pt → Int
  | p :: q :: r => (p.x * q.y - q.x * p.y) + area (q :: r)
  | _ => 0
theorem area_app (l : List Pt) (a b : Pt) : area (l ++ [a, b]) = area (l ++ [a]) + (a.x * b.y - b.x * a.y) := by
  induction l with
  | nil => simp [area]
  | cons p l ih =>
    cases l with
    | nil => simp only [List.nil_append, List.cons_append, area] at ih ⊢; omega
    | cons q l => simp only [List.cons_append, area] at ih ⊢; omega
theorem area_reverse : ∀ l : List Pt, area l.reverse = - area l
  | [] => rfl
  | [a] => rfl
  | a :: b :: l => by
    have ih := area_reverse (b :: l)
    rw [List.reverse_cons, List.reverse_cons, List.append_assoc]
    rw [List.reverse_cons] at ih
    show area (l.reverse ++ [b, a]) = _
    rw [area_app, ih]
    simp only [area]; omega

theorem w_loop {p : Plan} {l : List Int} {i14 i15 e11 : Int} {y : List Pt × Int} (hy : y.1.length ≤ 1048578) : ∀ (k i : Nat) (s : Int), i + k = y.1.length → w64 s = s → loopO (walk_Twice_L0b p l i14 i15 e11 y) (s, ((i + 1 : Nat) : Int)) = some (w64 (s + area (y.1.drop i)))
  | 0, i, s, hk, hs => by
    have h1 : ¬ (((i + 1 : Nat) : Int) < (y.1.length : Int)) := by omega
    rw [List.drop_eq_nil_of_le (by omega), show area ([] : List Pt) = 0 from rfl, Int.add_zero, hs]
    refine loopO_done ?_
    simp only [walk_Twice_L0b, h1, if_false]
  | k + 1, i, s, hk, hs => by
    by_cases hc : i + 1 < y.1.length
    · obtain ⟨u, hu, gu⟩ := at_lt (l := y.1) (i := i) (by omega)
      obtain ⟨v, hv, gv⟩ := at_lt hc
      have hc' : ((i + 1 : Nat) : Int) < (y.1.length : Int) := by omega
      have hw : w64 (((i + 1 : Nat) : Int) - 1) = (i : Int) := by rw [w64_id] <;> omega
      have ih := w_loop (p := p) (l := l) (i14 := i14) (i15 := i15) (e11 := e11) hy k (i + 1) (w64 (s + w64 (w64 (u.x * v.y) - w64 (v.x * u.y)))) (by omega) (w64_w64 _)
      have hb : walk_Twice_L0b p l i14 i15 e11 y (s, ((i + 1 : Nat) : Int)) = some (.inl (w64 (s + w64 (w64 (u.x * v.y) - w64 (v.x * u.y))), ((i + 1 + 1 : Nat) : Int))) := by
        simp only [walk_Twice_L0b, hc', if_true, hw, hu, hv, Option.bind_some, w64_succ (show i + 1 < 9223372036854775807 by omega)]
      rw [loopO_step hb, ih, drop_get gu, drop_get gv, area]
      congr 1
      apply w64_eq
      have m1 := w64_mod (u.x * v.y)
      have m2 := w64_mod (v.x * u.y)
      have m3 := w64_mod (w64 (u.x * v.y) - w64 (v.x * u.y))
      have m4 := w64_mod (s + w64 (w64 (u.x * v.y) - w64 (v.x * u.y)))
      omega
    · have h1 : ¬ (((i + 1 : Nat) : Int) < (y.1.length : Int)) := by omega
      have hd : area (y.1.drop i) = 0 := by
        have : (y.1.drop i).length ≤ 1 := by rw [List.length_drop]; omega
        match h : y.1.drop i, this with
        | [], _ => rfl
        | [_], _ => rfl
      rw [hd, Int.add_zero, hs]
      refine loopO_done ?_
      simp only [walk_Twice_L0b, h1, if_false]
theorem r_loop {p : Plan} {l : List Int} {i15 : Int} {y : List Pt} (hy : y.length ≤ 1048578) : ∀ (k i : Nat) (s : Int), i + k = y.length → w64 s = s → loopO (r15_Twice_L0b p l i15 y) (s, ((i + 1 : Nat) : Int)) = some (w64 (s + area (y.drop i)))
  | 0, i, s, hk, hs => by
    have h1 : ¬ (((i + 1 : Nat) : Int) < (y.length : Int)) := by omega
    rw [List.drop_eq_nil_of_le (by omega), show area ([] : List Pt) = 0 from rfl, Int.add_zero, hs]
    refine loopO_done ?_
    simp only [r15_Twice_L0b, h1, if_false]
  | k + 1, i, s, hk, hs => by
    by_cases hc : i + 1 < y.length
    · obtain ⟨u, hu, gu⟩ := at_lt (l := y) (i := i) (by omega)
      obtain ⟨v, hv, gv⟩ := at_lt hc
      have hc' : ((i + 1 : Nat) : Int) < (y.length : Int) := by omega
      have hw : w64 (((i + 1 : Nat) : Int) - 1) = (i : Int) := by rw [w64_id] <;> omega
      have ih := r_loop (p := p) (l := l) (i15 := i15) hy k (i + 1) (w64 (w64 (s + w64 (u.x * v.y)) - w64 (v.x * u.y))) (by omega) (w64_w64 _)
      have hb : r15_Twice_L0b p l i15 y (s, ((i + 1 : Nat) : Int)) = some (.inl (w64 (w64 (s + w64 (u.x * v.y)) - w64 (v.x * u.y)), ((i + 1 + 1 : Nat) : Int))) := by
        simp only [r15_Twice_L0b, hc', if_true, hw, hu, hv, Option.bind_some, w64_succ (show i + 1 < 9223372036854775807 by omega)]
      rw [loopO_step hb, ih, drop_get gu, drop_get gv, area]
      congr 1
      apply w64_eq
      have m1 := w64_mod (u.x * v.y)
      have m2 := w64_mod (v.x * u.y)
      have m3 := w64_mod (s + w64 (u.x * v.y))
      have m4 := w64_mod (w64 (s + w64 (u.x * v.y)) - w64 (v.x * u.y))
      omega
    · have h1 : ¬ (((i + 1 : Nat) : Int) < (y.length : Int)) := by omega
      have hd : area (y.drop i) = 0 := by
        have : (y.drop i).length ≤ 1 := by rw [List.length_drop]; omega
        match h : y.drop i, this with
        | [], _ => rfl
        | [_], _ => rfl
      rw [hd, Int.add_zero, hs]
      refine loopO_done ?_
      simp only [r15_Twice_L0b, h1, if_false]
theorem rev_loop {y : List Pt × Int} (hy : y.1.length ≤ 1048578) : ∀ (k : Nat) (out : List Pt), k ≤ y.1.length → out.length + k = y.1.length → loopO (r15_Path_L0b y) (out, (k : Int) - 1) = some (out ++ (y.1.take k).reverse)
  | 0, out, hk, ho => by
    simp only [List.take_zero, List.reverse_nil, List.append_nil]
    refine loopO_done ?_
    have : ¬ (((0 : Nat) : Int) - 1 ≥ 0) := by omega
    simp only [r15_Path_L0b, this, if_false]
  | k + 1, out, hk, ho => by
    obtain ⟨u, hu, gu⟩ := at_lt (l := y.1) (i := k) (by omega)
    have ih := rev_loop hy k (out ++ [u]) (by omega) (by simp; omega)
    have e : (((k + 1 : Nat) : Int) - 1) = (k : Int) := by omega
    have hc : (k : Int) ≥ 0 := by omega
    have hb : r15_Path_L0b y (out, (((k + 1 : Nat) : Int) - 1)) = some (.inl (out ++ [u], (k : Int) - 1)) := by
      rw [e]
      simp only [r15_Path_L0b, hc, if_true, hu, Option.bind_some]
      rw [appO_ok (by simp; omega) (by omega), Option.bind_some, w64_id (by omega) (by omega)]
    rw [loopO_step hb, ih, List.take_add_one, gu]
    simp

theorem pathO_len {p : Plan} (hp : p.Ok) {d : Int} {q : List Pt} (h : pathO p d = some q) : q.length ≤ 1048578 := by
  unfold pathO at h
  split at h
  · cases h
  · rename_i a ha
    have hv := hp.vl a (List.mem_of_find?_eq_some ha)
    cases h1 : fN p a.frm <;> cases h2 : fN p a.to <;> rw [h1, h2] at h <;> simp only [joinN] at h <;> cases h
    simp; omega
def pos (d : Int) : Int := if d < 0 then w64 (0 - d) else d
def pts (o : Option (List Pt)) : List Pt := (pathV o).1
theorem pts_len {p : Plan} (hp : p.Ok) (d : Int) : (pts (pathO p d)).length ≤ 1048578 := by
  unfold pts
  cases h : pathO p d with
  | none => simp [pathV]
  | some q => exact pathO_len hp h
/-- A step of the sum over darts. -/
def stepT (p : Plan) (n d : Int) : Int ⊕ (Unit ⊕ Int) :=
  match (if pos d ≤ 0 then none else fA p (pos d)) with
  | none => .inr (.inl ())
  | some _ => .inl (w64 (n + if d < 0 then - area (pts (pathO p (pos d))) else area (pts (pathO p (pos d)))))
theorem w_outer {p : Plan} (hp : p.Ok) {l : List Int} (hl : l.length ≤ 1048576) : walk_Twice_L1 p l (0, 0) = some (foldE (stepT p) (fun n => .inr n) l 0) := by
  refine loopO_fold0 (body := walk_Twice_L1b p l) (st := fun i n => (n, (i : Int))) (fun i n => w64 n = n) (fun i d n hg hI => ?_) (fun n hI => ?_) rfl
  · have hlt := get_lt hg
    have hat : at_ l (i : Int) = some d := hg
    have h1 : (i : Int) < (l.length : Int) := by omega
    simp only [walk_Twice_L1b, h1, if_true, hat, Option.bind_some, arc_walk hp]
    unfold stepT
    show _ ∧ _
    have hpos : (if d < 0 then w64 (0 - d) else d) = pos d := rfl
    rw [hpos]
    cases ha : (if pos d ≤ 0 then none else fA p (pos d)) with
    | none => exact ⟨rfl, fun s' h => by cases h⟩
    | some a =>
      have hid : a.id = pos d := by
        split at ha
        · cases ha
        · have := List.find?_some ha; simpa using this
      simp only [arcV, if_true, path_plan hp, Option.bind_some, hid]
      have hw := w_loop (p := p) (l := l) (i14 := n) (i15 := (i : Int)) (e11 := d) (y := pathV (pathO p (pos d))) (pts_len hp (pos d)) _ 0 0 (Nat.zero_add _) rfl
      have hw' : walk_Twice_L0 p l n (i : Int) d (pathV (pathO p (pos d))) (0, 1) = some (w64 (0 + area (pts (pathO p (pos d))))) := by rw [List.drop_zero] at hw; exact hw
      rw [hw', Option.bind_some, Int.zero_add]
      have m1 := w64_mod (area (pts (pathO p (pos d))))
      have m2 := w64_mod (0 - w64 (area (pts (pathO p (pos d)))))
      rw [w64_succ (show i < 9223372036854775807 by omega)]
      by_cases hd : d < 0
      · simp only [hd, if_true, stepK]
        refine ⟨?_, fun s' h => by cases h; exact w64_w64 _⟩
        congr 3
        apply w64_eq; omega
      · simp only [hd, if_false, stepK]
        refine ⟨?_, fun s' h => by cases h; exact w64_w64 _⟩
        congr 3
        apply w64_eq; omega
  · have h1 : ¬ ((l.length : Int) < (l.length : Int)) := by omega
    simp only [walk_Twice_L1b, h1, if_false]

theorem valid_ref {p : Plan} (hp : p.Ok) (hpos : ∀ a, a ∈ p.arcs → 1 ≤ a.id ∧ a.id ≤ 1073741824) {d : Int} (hd : inR d) : r15_valid p d = some ((if pos d ≤ 0 then none else fA p (pos d)).isSome) := by
  have hn := hp.al
  unfold inR at hd
  let st0 := fun (i : Nat) (_ : Unit) => ((0 : Int), (0 : Int), (0 : Int), ([] : List Pt), (0 : Int), (0 : Int), (i : Int))
  have h := loopO_fold0 (body := r15_arc_L0b p d) (l := p.arcs) (st := st0) (step := fun _ (e : Arc) => if e.id = d then (.inr (.inl (e.id, e.frm, e.to, e.via, e.left, e.right, false)) : Unit ⊕ ((Int × Int × Int × List Pt × Int × Int × Bool) ⊕ (Int × Int × Int × List Pt × Int × Int))) else if e.id = w64 (0 - d) then .inr (.inl (e.id, e.frm, e.to, e.via, e.left, e.right, true)) else .inl ()) (fin := fun _ => Sum.inr (0, 0, 0, [], 0, 0)) (fun _ _ => True) (fun i a s hg _ => ?_) (fun s _ => ?_) (s := ()) trivial
  · have key : ∀ l : List Arc, (∀ a, a ∈ l → 1 ≤ a.id ∧ a.id ≤ 1073741824) → ∃ x, foldE (fun _ (e : Arc) => if e.id = d then (.inr (.inl (e.id, e.frm, e.to, e.via, e.left, e.right, false)) : Unit ⊕ ((Int × Int × Int × List Pt × Int × Int × Bool) ⊕ (Int × Int × Int × List Pt × Int × Int))) else if e.id = w64 (0 - d) then .inr (.inl (e.id, e.frm, e.to, e.via, e.left, e.right, true)) else .inl ()) (fun _ => Sum.inr (0, 0, 0, [], 0, 0)) l () = x ∧
        sumK x (fun _ => (if pos d ≤ 0 then none else l.find? (fun a => a.id == pos d)).isSome = true) (fun _ => (if pos d ≤ 0 then none else l.find? (fun a => a.id == pos d)).isSome = false) := by
      intro l hl
      induction l with
      | nil => refine ⟨_, rfl, ?_⟩; simp [foldE, sumK]
      | cons a l ih =>
        have ha := hl a (by simp)
        obtain ⟨x, hx, hs⟩ := ih fun b hb => hl b (by simp [hb])
        have hm := w64_mod (0 - d)
        have hid : (0 : Int) ≤ -d → w64 (0 - d) = -d ∨ d = -9223372036854775808 := by
          intro _
          by_cases h9 : d = -9223372036854775808
          · exact .inr h9
          · left; rw [w64_id] <;> omega
        have hw0 : 0 < d → w64 (0 - d) = -d := fun _ => by rw [w64_id] <;> omega
        have hmin : d = -9223372036854775808 → w64 (0 - d) = -9223372036854775808 := fun h => by subst h; rfl
        rw [foldE, List.find?_cons]
        by_cases h1 : a.id = d
        · have hpd : pos d = d := by unfold pos; rw [if_neg (by omega)]
          have hb : (a.id == pos d) = true := by rw [hpd]; simpa using h1
          rw [if_pos h1, hb, if_neg (by omega)]
          exact ⟨_, rfl, rfl⟩
        · rw [if_neg h1]
          by_cases h2 : a.id = w64 (0 - d)
          · have hd0 : d < 0 := by
              rcases Int.lt_trichotomy d 0 with h | h | h
              · exact h
              · subst h; have : w64 (0 - 0) = 0 := rfl; omega
              · have := hw0 h; omega
            have hpd : pos d = w64 (0 - d) := by unfold pos; rw [if_pos hd0]
            have hb : (a.id == pos d) = true := by rw [hpd]; simpa using h2
            rw [if_pos h2, hb, if_neg (by omega)]
            exact ⟨_, rfl, rfl⟩
          · have hb : (a.id == pos d) = false := by
              unfold pos
              split
              · simpa using h2
              · simpa using h1
            rw [if_neg h2, hb]
            exact ⟨x, hx, hs⟩
    obtain ⟨x, hx, hs⟩ := key p.arcs hpos
    have h' : r15_arc_L0 p d (0, 0, 0, [], 0, 0, 0) = some x := by rw [← hx]; exact h
    simp only [r15_valid, r15_arc, h', Option.bind_some, fA]
    cases x with
    | inl y =>
      rw [sumK_inl] at hs
      obtain ⟨a1, a2, a3, a4, a5, a6, a7⟩ := y
      rw [hs]
      have hne : d ≠ 0 := by
        intro h0
        subst h0
        have : pos 0 = 0 := rfl
        rw [this] at hs
        simp at hs
      have : (d != 0) = true := by simpa using hne
      simp only [sumK, Option.bind_some, if_true, this]
    | inr y =>
      rw [sumK_inr] at hs
      obtain ⟨a1, a2, a3, a4, a5, a6⟩ := y
      rw [hs]
      rfl
  · have hlt := get_lt hg
    have hat : at_ p.arcs (i : Int) = some a := hg
    have h1 : (i : Int) < (p.arcs.length : Int) := by omega
    simp only [st0, r15_arc_L0b, h1, if_true, hat, Option.bind_some, w64_succ (show i < 9223372036854775807 by omega)]
    refine ⟨?_, fun _ _ => trivial⟩
    split
    · rfl
    · split <;> rfl
  · have h1 : ¬ ((p.arcs.length : Int) < (p.arcs.length : Int)) := by omega
    simp only [st0, r15_arc_L0b, h1, if_false]
theorem path_dart {p : Plan} (hp : p.Ok) {d : Int} (hd : inR d) (h0 : ¬ pos d ≤ 0) : r15_Path p d = some (if d < 0 then (pts (pathO p (pos d))).reverse else pts (pathO p (pos d))) := by
  unfold r15_Path
  by_cases hc : d > 0
  · have e : pos d = d := by unfold pos; rw [if_neg (by omega)]
    rw [if_pos hc, path_ref hp, Option.bind_some, if_neg (by omega), e]; rfl
  · have hneg : d < 0 := by
      rcases Int.lt_trichotomy d 0 with h | h | h
      · exact h
      · subst h; exact (h0 (by decide)).elim
      · omega
    have e : pos d = w64 (0 - d) := by unfold pos; rw [if_pos hneg]
    rw [if_neg hc, path_ref hp, Option.bind_some, if_pos hneg, ← e]
    have hl := pts_len hp (pos d)
    have hw : w64 (((pathV (pathO p (pos d))).1.length : Int) - 1) = ((pts (pathO p (pos d))).length : Int) - 1 := by
      rw [w64_id] <;> unfold pts at * <;> omega
    rw [hw]
    have hr := rev_loop (y := pathV (pathO p (pos d))) hl (pts (pathO p (pos d))).length [] (Nat.le_refl _) (by simp [pts])
    have hr' : r15_Path_L0 (pathV (pathO p (pos d))) ([], ((pts (pathO p (pos d))).length : Int) - 1) = some (pts (pathO p (pos d))).reverse := by
      rw [show r15_Path_L0 (pathV (pathO p (pos d))) ([], ((pts (pathO p (pos d))).length : Int) - 1) = _ from hr]
      simp [pts]
    rw [hr', Option.bind_some]
theorem r_outer {p : Plan} (hp : p.Ok) (hpos : ∀ a, a ∈ p.arcs → 1 ≤ a.id ∧ a.id ≤ 1073741824) {l : List Int} (hl : l.length ≤ 1048576) (hr : ∀ d, d ∈ l → inR d) : r15_Twice_L1 p l (0, 0) = some (foldE (stepT p) (fun n => .inr n) l 0) := by
  refine loopO_fold0 (body := r15_Twice_L1b p l) (st := fun i n => (n, (i : Int))) (fun i n => w64 n = n) (fun i d n hg hI => ?_) (fun n hI => ?_) rfl
  · have hlt := get_lt hg
    have hat : at_ l (i : Int) = some d := hg
    have hd := hr d (List.mem_of_getElem? hg)
    have h1 : (i : Int) < (l.length : Int) := by omega
    simp only [r15_Twice_L1b, h1, if_true, hat, Option.bind_some, valid_ref hp hpos hd]
    unfold stepT
    cases ha : (if pos d ≤ 0 then none else fA p (pos d)) with
    | none => exact ⟨rfl, fun s' h => by cases h⟩
    | some a =>
      have h0 : ¬ pos d ≤ 0 := by
        intro h; rw [if_pos h] at ha; cases ha
      simp only [Option.isSome_some, if_true, path_dart hp hd h0, Option.bind_some]
      have hlen : (if d < 0 then (pts (pathO p (pos d))).reverse else pts (pathO p (pos d))).length ≤ 1048578 := by
        split
        · rw [List.length_reverse]; exact pts_len hp _
        · exact pts_len hp _
      have hw := r_loop (p := p) (l := l) (i15 := (i : Int)) hlen _ 0 n (Nat.zero_add _) hI
      have hw' : r15_Twice_L0 p l (i : Int) (if d < 0 then (pts (pathO p (pos d))).reverse else pts (pathO p (pos d))) (n, 1) = some (w64 (n + area (if d < 0 then (pts (pathO p (pos d))).reverse else pts (pathO p (pos d))))) := by rw [List.drop_zero] at hw; exact hw
      rw [hw', Option.bind_some, w64_succ (show i < 9223372036854775807 by omega)]
      have e : area (if d < 0 then (pts (pathO p (pos d))).reverse else pts (pathO p (pos d))) = if d < 0 then - area (pts (pathO p (pos d))) else area (pts (pathO p (pos d))) := by
        split
        · exact area_reverse _
        · rfl
      rw [e]
      exact ⟨rfl, fun s' h => by cases h; exact w64_w64 _⟩
  · have h1 : ¬ ((l.length : Int) < (l.length : Int)) := by omega
    simp only [r15_Twice_L1b, h1, if_false]
/-- The law. -/
theorem twice_law {p : Plan} {l : List Int} (hp : p.Ok) (hl : l.length ≤ 1048576) (hr : ∀ d, d ∈ l → inR d) : law15_WalkTwice p l = some true := by
  obtain ⟨b, hb, hsm⟩ := small_ans hp
  unfold law15_WalkTwice law15_good
  rw [hb, Option.bind_some]
  cases b with
  | false => rfl
  | true =>
    obtain ⟨e, he, hpos⟩ := check_ans hp (hsm rfl)
    simp only [if_true, he, Option.bind_some]
    by_cases h0 : e = 0
    · subst h0
      simp only [beq_self_eq_true, if_true]
      have ew : walk_Twice p l = r15_Twice p l := by
        unfold walk_Twice r15_Twice
        split
        · rfl
        · rw [w_outer hp hl, r_outer hp (hpos rfl) hl hr]
      have tot : Tot (r15_Twice p l) := by
        unfold r15_Twice
        refine Tot.ite (fun _ => .mk _) fun _ => ?_
        rw [r_outer hp (hpos rfl) hl hr]
        exact Tot.bind (.mk _) fun x _ => Tot.sumK (fun _ _ => .mk _) fun _ _ => .mk _
      obtain ⟨r, hr⟩ := tot
      rw [ew, hr, Option.bind_some, Option.bind_some, if_pos rfl]
      rfl
    · have : (e == 0) = false := by simpa using h0
      simp only [this, Bool.false_eq_true, if_false]
      rfl
end Go.TL.Pr
