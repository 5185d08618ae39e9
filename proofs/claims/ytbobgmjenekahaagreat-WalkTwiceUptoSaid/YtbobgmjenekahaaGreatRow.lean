/- WalkTwice: for all arguments that hold together at most 1048576 values and letters, the law returns true and leaves its arguments as they read. -/
import Derived.Test.YtbobgmjenekahaaGreatRows
import Derived.WalkKit
import Derived.ProofKit
import Derived.OpenShut
import Derived.JoinedCond
import Derived.Carry
import Derived.Test.YtbobgmjenekahaaGreatPl
import Derived.Test.YtbobgmjenekahaaGreatTH
set_option linter.unusedVariables false
set_option linter.unusedSimpArgs false
namespace Go.Proofs.YtbobgmjenekahaaGreat
open Go.ChangeShapes Go.WideShapes Go.ChangeAt Go.RowKit Go.TL Go.TL.Pr
set_option maxRecDepth 100000
theorem own : ownKnob Tryz.prog.godebug = none := by kernel_rfl
theorem kids : Kids Tryz.prog (· < Tryz.prog.types.size) := kids_rows (by kernel_rfl) (by kernel_rfl)
theorem full : ∀ t e, t < Tryz.prog.types.size → Tryz.prog.underlying t = some (.slice e) → 0 < Tryz.prog.cellsOf e := slices_full_of Tryz.prog (by kernel_rfl)
mutual
theorem bulk_eq {H : Type} : ∀ d : DataW H, bulkD d = Rows.uptoBulk d
  | .lit (.string bytes) => by simp [bulkD, Rows.uptoBulk]
  | .lit (.int _ _) => by simp [bulkD, Rows.uptoBulk]
  | .lit (.bool _) => by simp [bulkD, Rows.uptoBulk]
  | .lit .nil => by simp [bulkD, Rows.uptoBulk]
  | .lit (.float _ _) => by simp [bulkD, Rows.uptoBulk]
  | .nil => by simp [bulkD, Rows.uptoBulk]
  | .ptr d => by simp [bulkD, Rows.uptoBulk, bulk_eq d]
  | .slice a b => by simp [bulkD, Rows.uptoBulk, bulkAll_eq a, bulkAll_eq b]
  | .agg a => by simp [bulkD, Rows.uptoBulk, bulkAll_eq a]
  | .iface _ d => by simp [bulkD, Rows.uptoBulk, bulk_eq d]
  | .map es => by simp [bulkD, Rows.uptoBulk, bulkEs_eq es]
  | .held _ => by simp [bulkD, Rows.uptoBulk]
theorem bulkAll_eq {H : Type} : ∀ l : List (DataW H), bulkAll l = Rows.uptoBulkAll l
  | [] => by simp [bulkAll, Rows.uptoBulkAll]
  | d :: r => by simp [bulkAll, Rows.uptoBulkAll, bulk_eq d, bulkAll_eq r]
theorem bulkEs_eq {H : Type} : ∀ l : List (Lit × DataW H), bulkEs l = Rows.uptoBulkEntries l
  | [] => by simp [bulkEs, Rows.uptoBulkEntries]
  | x :: r => by simp [bulkEs, Rows.uptoBulkEntries, bulkE_eq x, bulkEs_eq r]
theorem bulkE_eq {H : Type} : ∀ x : Lit × DataW H, bulkE x = Rows.uptoBulkEntry x
  | (.string b, d) => by simp [bulkE, Rows.uptoBulkEntry, bulk_eq d]
  | (.int _ _, d) => by simp [bulkE, Rows.uptoBulkEntry, bulk_eq d]
  | (.bool _, d) => by simp [bulkE, Rows.uptoBulkEntry, bulk_eq d]
  | (.nil, d) => by simp [bulkE, Rows.uptoBulkEntry, bulk_eq d]
  | (.float _ _, d) => by simp [bulkE, Rows.uptoBulkEntry, bulk_eq d]
end

theorem pty : PlanTy Tryz.prog 3 44 48 46 22 50 23 24 26 where
  i := Tryz.underlying3
  ci := by kernel_rfl
  p := ⟨_, _, Tryz.underlying44, rfl, rfl, rfl, rfl⟩
  cp := by kernel_rfl
  ps := Tryz.underlying48
  cps := by kernel_rfl
  n := ⟨_, _, Tryz.underlying46, rfl, rfl, rfl, rfl⟩
  cn := by kernel_rfl
  ns := Tryz.underlying22
  cns := by kernel_rfl
  a := ⟨_, _, _, _, _, _, Tryz.underlying50, rfl, rfl, rfl, rfl, rfl, rfl, rfl, rfl, rfl, rfl, rfl, rfl⟩
  ca := by kernel_rfl
  as_ := Tryz.underlying23
  cas := by kernel_rfl
  is_ := Tryz.underlying24
  cis := by kernel_rfl
  pl := ⟨_, _, _, Tryz.underlying26, rfl, rfl, rfl, rfl, rfl, rfl⟩
  cpl := by kernel_rfl
namespace walkTwice
theorem contract (H : Type) (enc : TypeId × Value → H) (W : World) (base : Nat) (args : Array Value) (ds gs : List (DataW H)) (before : List MemPlace)
    (hval : ∀ (j : Nat) t v, Tryz.f6.params[j]? = some t → args[j]? = some v → Value.okWide Tryz.prog W .any base t v)
    (hW : DataW.Whole enc Tryz.prog Tryz.f6.params.toList Rows.walkTwiceSpec.vars false W args.toList ds gs before) (hk : Rows.uptoSmall H (ds ++ gs) = true) :
    Calls Tryz.prog 6 args W fun e W' => ∃ v, e = .returned v ∧ Rows.walkTwiceSpec.post enc Tryz.prog Tryz.f6 false true false false W args v W' := by
  have hW' := hW
  obtain ⟨p, q, hA0, hV, rfl, hfz, hnd⟩ := hW
  have hA : DataW.TrodAll enc Tryz.prog W 0 (fun _ => true) true Tryz.f6.params.toList args.toList ds p := hA0
  rw [Tryz.params6] at hA hval
  have hAk := hA
  obtain ⟨v0, vs0, d0, ds0, p0, q0, hargs, rfl, rfl, h0, r0⟩ := trodAll_cons hA
  obtain ⟨v1, vs1, d1, ds1, p1, q1, rfl, rfl, rfl, h1, r1⟩ := trodAll_cons r0
  obtain ⟨rfl, rfl, rfl⟩ := trodAll_nil r1
  obtain rfl : args = #[v0, v1] := by cases args; simp_all
  obtain ⟨rfl, rfl⟩ := trodVars_none hV
  have hb : bulkAll [d0, d1] ≤ 1048576 := by rw [bulkAll_eq]; simpa [Rows.uptoSmall] using hk
  obtain ⟨cs0, hv0, _⟩ := okWide_struct Tryz.underlying26 (hval 0 26 v0 rfl rfl)
  obtain ⟨m0, xs0, hsh0, har0⟩ := arg_agg (L := 1048576) (fun _ h1 h2 => plainTy_le h1 h2) (show plainTy Tryz.prog 8 26 = true by kernel_rfl) hv0 h0 (Nat.le_trans (bulk_part (by simp)) hb)
  obtain ⟨pl0, hpl0, hok0⟩ := plan_shape pty (Nat.le_refl _) hsh0
  rw [hpl0] at har0
  obtain ⟨a1, l1, c1, hv1⟩ := okWide_slice Tryz.underlying24 (hval 1 24 v1 rfl rfl)
  obtain ⟨m1, x1, hsh1, har1⟩ := arg_slice (L := 1048576) (n := 8) (show plainTy Tryz.prog 8 24 = true by kernel_rfl) hv1 h1 (Nat.le_trans (bulk_part (by simp)) hb)
  obtain ⟨z1, rfl, hz1, hr1⟩ := ints_shape Tryz.underlying24 Tryz.underlying3 hsh1
  have hlaw := law15_WalkTwice_ok (twice_law hok0 hz1 hr1)
  have hc := calls_true (callL_sound fun n => sound (famT_sound law15_WalkTwice_goods) n) hlaw (w := W) (vals := [v0, v1]) (.cons har0 (.cons har1 .nil))
  refine hc.mono fun e W' ⟨he, hg, hh⟩ => ?_
  subst he
  have hlt : ∀ x ∈ p0 ++ (p1 ++ ([])), x.block < W.heap.size := fun x hx => by simpa using hW'.lt x (by simpa using hx)
  refine ⟨_, rfl, post_of_same (pa := p0 ++ (p1 ++ ([]))) (pv := []) hW' (fun _ _ _ => trodAll_cons_mk (shut_bool Tryz.underlying4 _) trodAll_mk0)
    (fun sp hsp => carryAll (by rw [Tryz.params6]; exact hAk.respare kids full (by decide) fun x hx => hsp x (by simpa using hx)) fun x hx => same_at hh (hlt x hx)) (fun _ _ => rfl) rfl
    (hg.frame _) hg.2.1 (ok_one (by kernel_rfl) rfl (okWide_bool_mk Tryz.underlying4 _))⟩

theorem lifted (os : Os) (started : os.Started) (H : Type) (enc : TypeId × Value → H) (F : Stop.Interp) :
    ReturnsInHanded {} Tryz.checked os 6 .any ((Rows.OpenSpec.upto Rows.walkTwiceSpec).pre6 enc Tryz.prog Tryz.f6 Rows.walkTwiceUptoRow.domain false) (((Rows.OpenSpec.upto Rows.walkTwiceSpec).at F).post enc Tryz.prog Tryz.f6 false true false false) := by
  refine returnsInHanded_of_cond (C := Tryz.checked) (s := Rows.OpenSpec.upto Rows.walkTwiceSpec) (k := Rows.uptoSmall) rfl own started (by kernel_rfl) Tryz.func6
    (OpenSpec.witness (enc := enc) (C := Tryz.checked) (s := Rows.OpenSpec.upto Rows.walkTwiceSpec) (k := Rows.uptoSmall) rfl false ⟨#[], #[.agg #[.slice none 0 0, .slice none 0 0, .slice none 0 0], .slice none 0 0], []⟩ 8 (by kernel_rfl) (by kernel_rfl) (by kernel_rfl)
      (x := ([.agg [.nil, .nil, .nil], .nil], [], [])) (by kernel_rfl) rfl (by kernel_rfl)) ?_
  intro W base args ds gs before hval hW _ hk _
  exact contract H enc W base args ds gs before hval hW hk

theorem over : Rows.walkTwiceUptoRow.holds Tryz.pinned (Rows.OpenSpec.upto Rows.walkTwiceSpec) :=
  OpenClaim.holds_of_cond 6 Tryz.f6 rfl rfl rfl rfl rfl rfl rfl ⟨rfl, rfl, rfl, rfl, rfl⟩ rfl rfl rfl rfl rfl (by kernel_rfl) Tryz.func6 (by kernel_rfl)
    (of_decide_eq_true (by kernel_rfl)) (by unfold Func.isWrapper; first | (rw [if_pos (by decide +kernel)]; kernel_rfl) | (rw [if_neg (by decide +kernel)]; exact ⟨rfl, rfl⟩))
    (fun os started H enc _ F => lifted os started H enc F)

theorem proved : Rows.WalkTwiceUptoSaid := over
end walkTwice
end Go.Proofs.YtbobgmjenekahaaGreat
