/- Printed walks. -/
import Derived.Test.YtbobgmjenekahaaGreatX
import Derived.Test.YtbobgmjenekahaaGreatTH
import Derived.KernelRfl
set_option linter.unusedVariables false
set_option linter.unusedSimpArgs false
namespace Go.TL.Pr
open Go.TL
open Go.Proofs.Tryz
set_option maxRecDepth 100000
set_option maxHeartbeats 2000000
set_option linter.unusedSimpArgs false
set_option linter.unusedVariables false
noncomputable section
/- 126: slices.Clone[[]mapsheets/api.Point,mapsheets/api.Point] -/
theorem sl_Clone_Point_cl0 {x y : Operand} : clV prog .eql 48 x y (.r (.sc (.slice none 0 0))) (.r (.sc (.slice none 0 0))) = oval (B true) := by kernel_rfl
theorem sl_Clone_Point_cl1 {x y : Operand} {a : Addr} {c : Nat} : clV prog .eql 48 x y (.r (.sc (.slice (some a) 0 c))) (.r (.sc (.slice none 0 0))) = oval (B false) := by kernel_rfl
theorem sl_Clone_Point_nil : nilCmp prog 48 .eql = oval (B false) := by kernel_rfl
noncomputable def sl_Clone_Point_fam : Fam := cloneF 126 2 16
theorem sl_Clone_Point_good : sl_Clone_Point_fam.Good prog := by
  refine cloneF_good (cfg := cfg) sound ?_ ?_ ?_
  · refine callL_wpG cx126 (ax := [nilT]) rfl rfl ?_
    simp only [x126, x126B, retG, sl_Clone_Point_cl0, ↓askB_true, ↓askB_false, beq_self_eq_true, wz, Nat.reduceAdd, Nat.reduceSub, Nat.reduceMul, Nat.reduceBEq, Nat.reduceEqDiff, Nat.reduceLeDiff, Nat.reduceLT, reduceCtorEq]
  · intro a c
    refine callL_wpG cx126 (ax := [.r (.sc (.slice (some a) 0 c))]) rfl rfl ?_
    simp only [x126, x126B, retG, sl_Clone_Point_cl1, appendX_copyE, ↓askB_true, ↓askB_false, beq_self_eq_true, wz, Nat.reduceAdd, Nat.reduceSub, Nat.reduceMul, Nat.reduceBEq, Nat.reduceEqDiff, Nat.reduceLeDiff, Nat.reduceLT, reduceCtorEq]
  · intro x xs ha
    refine callL_wpG cx126 (ax := [.r (.lst (x :: xs) none)]) rfl rfl ?_
    simp only [x126, x126B, retG, sl_Clone_Point_nil, ha, ↓askB_true, ↓askB_false, beq_self_eq_true, wz, Nat.reduceAdd, Nat.reduceSub, Nat.reduceMul, Nat.reduceBEq, Nat.reduceEqDiff, Nat.reduceLeDiff, Nat.reduceLT, reduceCtorEq]
    have e1 : Nat.ble (xs.length + 1) (x :: xs).length = true := by simp
    simp only [keepT, Nat.blt, List.getElem?_cons_zero, Nat.beq_refl, Nat.zero_add, e1, Nat.sub_self, Nat.zero_sub, Nat.ble_eq_true_of_le (Nat.zero_le _), Bool.and_self, cond_true, List.drop_zero, List.take_zero, List.nil_append]
    rw [List.take_of_length_le (by simp)]
    rfl
end
end Go.TL.Pr
/- The chapter's examples, carried out by the kernel (printed by program). -/
namespace Go.TL
set_option maxRecDepth 1000000
def awakeFams : List Fam := [cloneF 126 2 16]
theorem awakeFams_good : ∀ x, x ∈ awakeFams → x.Good Go.Proofs.Tryz.prog := (goodsC Pr.sl_Clone_Point_good goods0)
def k_sq : Known := ⟨33, [], (.agg [(.r (.lst [[(.sc (.int .i64 (1))), (.sc (.int .i64 (0))), (.sc (.int .i64 (0)))], [(.sc (.int .i64 (2))), (.sc (.int .i64 (9))), (.sc (.int .i64 (0)))], [(.sc (.int .i64 (3))), (.sc (.int .i64 (9))), (.sc (.int .i64 (9)))], [(.sc (.int .i64 (4))), (.sc (.int .i64 (0))), (.sc (.int .i64 (9)))]] none)), (.r (.lst [[(.sc (.int .i64 (1))), (.sc (.int .i64 (1))), (.sc (.int .i64 (2))), (.lst [] none), (.sc (.int .i64 (0))), (.sc (.int .i64 (0)))], [(.sc (.int .i64 (2))), (.sc (.int .i64 (2))), (.sc (.int .i64 (3))), (.lst [] none), (.sc (.int .i64 (0))), (.sc (.int .i64 (0)))], [(.sc (.int .i64 (3))), (.sc (.int .i64 (3))), (.sc (.int .i64 (4))), (.lst [] none), (.sc (.int .i64 (0))), (.sc (.int .i64 (0)))], [(.sc (.int .i64 (4))), (.sc (.int .i64 (4))), (.sc (.int .i64 (1))), (.lst [] none), (.sc (.int .i64 (0))), (.sc (.int .i64 (0)))], [(.sc (.int .i64 (5))), (.sc (.int .i64 (1))), (.sc (.int .i64 (3))), (.lst [] none), (.sc (.int .i64 (0))), (.sc (.int .i64 (0)))]] none)), (.r (.lst [] none))])⟩
theorem r_sq : callT Go.Proofs.Tryz.prog cfg (orcT (famT awakeFams) (knownT [])) 1000 k_sq.f k_sq.args ⟨[], false, none⟩ = some (k_sq.val, ⟨[], false, none⟩, none) := by kernel_rfl
theorem ks_sq : ∀ k, k ∈ ([] : List Known) → Known.Good Go.Proofs.Tryz.prog k := by
  intro k hk
  simp only [List.mem_cons, List.not_mem_nil, or_false] at hk
theorem g_sq : k_sq.Good Go.Proofs.Tryz.prog := known_of (sound (orc_sound (famT_sound awakeFams_good) (known_sound ks_sq)) 1000) r_sq (by decide) (by decide)
def k_chk : Known := ⟨41, [(.agg [(.r (.lst [[(.sc (.int .i64 (1))), (.sc (.int .i64 (0))), (.sc (.int .i64 (0)))], [(.sc (.int .i64 (2))), (.sc (.int .i64 (9))), (.sc (.int .i64 (0)))], [(.sc (.int .i64 (3))), (.sc (.int .i64 (9))), (.sc (.int .i64 (9)))], [(.sc (.int .i64 (4))), (.sc (.int .i64 (0))), (.sc (.int .i64 (9)))]] none)), (.r (.lst [[(.sc (.int .i64 (1))), (.sc (.int .i64 (1))), (.sc (.int .i64 (2))), (.lst [] none), (.sc (.int .i64 (0))), (.sc (.int .i64 (0)))], [(.sc (.int .i64 (2))), (.sc (.int .i64 (2))), (.sc (.int .i64 (3))), (.lst [] none), (.sc (.int .i64 (0))), (.sc (.int .i64 (0)))], [(.sc (.int .i64 (3))), (.sc (.int .i64 (3))), (.sc (.int .i64 (4))), (.lst [] none), (.sc (.int .i64 (0))), (.sc (.int .i64 (0)))], [(.sc (.int .i64 (4))), (.sc (.int .i64 (4))), (.sc (.int .i64 (1))), (.lst [] none), (.sc (.int .i64 (0))), (.sc (.int .i64 (0)))], [(.sc (.int .i64 (5))), (.sc (.int .i64 (1))), (.sc (.int .i64 (3))), (.lst [] none), (.sc (.int .i64 (0))), (.sc (.int .i64 (0)))]] none)), (.r (.lst [] none))])], (.r (.sc (.int .i64 (0))))⟩
theorem r_chk : callT Go.Proofs.Tryz.prog cfg (orcT (famT awakeFams) (knownT [k_sq])) 1000 k_chk.f k_chk.args ⟨[], false, none⟩ = some (k_chk.val, ⟨[], false, none⟩, none) := by kernel_rfl
theorem ks_chk : ∀ k, k ∈ ([k_sq] : List Known) → Known.Good Go.Proofs.Tryz.prog k := by
  intro k hk
  simp only [List.mem_cons, List.not_mem_nil, or_false] at hk
  subst hk; exact g_sq
theorem g_chk : k_chk.Good Go.Proofs.Tryz.prog := known_of (sound (orc_sound (famT_sound awakeFams_good) (known_sound ks_chk)) 1000) r_chk (by decide) (by decide)
def k_sp1 : Known := ⟨35, [(.agg [(.r (.lst [[(.sc (.int .i64 (1))), (.sc (.int .i64 (0))), (.sc (.int .i64 (0)))], [(.sc (.int .i64 (2))), (.sc (.int .i64 (9))), (.sc (.int .i64 (0)))], [(.sc (.int .i64 (3))), (.sc (.int .i64 (9))), (.sc (.int .i64 (9)))], [(.sc (.int .i64 (4))), (.sc (.int .i64 (0))), (.sc (.int .i64 (9)))]] none)), (.r (.lst [[(.sc (.int .i64 (1))), (.sc (.int .i64 (1))), (.sc (.int .i64 (2))), (.lst [] none), (.sc (.int .i64 (0))), (.sc (.int .i64 (0)))], [(.sc (.int .i64 (2))), (.sc (.int .i64 (2))), (.sc (.int .i64 (3))), (.lst [] none), (.sc (.int .i64 (0))), (.sc (.int .i64 (0)))], [(.sc (.int .i64 (3))), (.sc (.int .i64 (3))), (.sc (.int .i64 (4))), (.lst [] none), (.sc (.int .i64 (0))), (.sc (.int .i64 (0)))], [(.sc (.int .i64 (4))), (.sc (.int .i64 (4))), (.sc (.int .i64 (1))), (.lst [] none), (.sc (.int .i64 (0))), (.sc (.int .i64 (0)))], [(.sc (.int .i64 (5))), (.sc (.int .i64 (1))), (.sc (.int .i64 (3))), (.lst [] none), (.sc (.int .i64 (0))), (.sc (.int .i64 (0)))]] none)), (.r (.lst [] none))]), (.r (.sc (.int .i64 (1))))], (.r (.lst [[(.sc (.int .i64 (1)))], [(.sc (.int .i64 (5)))], [(.sc (.int .i64 (-4)))]] none))⟩
theorem r_sp1 : callT Go.Proofs.Tryz.prog cfg (orcT (famT awakeFams) (knownT [k_sq, k_chk])) 1000 k_sp1.f k_sp1.args ⟨[], false, none⟩ = some (k_sp1.val, ⟨[], false, none⟩, none) := by kernel_rfl
theorem ks_sp1 : ∀ k, k ∈ ([k_sq, k_chk] : List Known) → Known.Good Go.Proofs.Tryz.prog k := by
  intro k hk
  simp only [List.mem_cons, List.not_mem_nil, or_false] at hk
  rcases hk with rfl | rfl
  · exact g_sq
  · exact g_chk
theorem g_sp1 : k_sp1.Good Go.Proofs.Tryz.prog := known_of (sound (orc_sound (famT_sound awakeFams_good) (known_sound ks_sp1)) 1000) r_sp1 (by decide) (by decide)
def k_sp2 : Known := ⟨35, [(.agg [(.r (.lst [[(.sc (.int .i64 (1))), (.sc (.int .i64 (0))), (.sc (.int .i64 (0)))], [(.sc (.int .i64 (2))), (.sc (.int .i64 (9))), (.sc (.int .i64 (0)))], [(.sc (.int .i64 (3))), (.sc (.int .i64 (9))), (.sc (.int .i64 (9)))], [(.sc (.int .i64 (4))), (.sc (.int .i64 (0))), (.sc (.int .i64 (9)))]] none)), (.r (.lst [[(.sc (.int .i64 (1))), (.sc (.int .i64 (1))), (.sc (.int .i64 (2))), (.lst [] none), (.sc (.int .i64 (0))), (.sc (.int .i64 (0)))], [(.sc (.int .i64 (2))), (.sc (.int .i64 (2))), (.sc (.int .i64 (3))), (.lst [] none), (.sc (.int .i64 (0))), (.sc (.int .i64 (0)))], [(.sc (.int .i64 (3))), (.sc (.int .i64 (3))), (.sc (.int .i64 (4))), (.lst [] none), (.sc (.int .i64 (0))), (.sc (.int .i64 (0)))], [(.sc (.int .i64 (4))), (.sc (.int .i64 (4))), (.sc (.int .i64 (1))), (.lst [] none), (.sc (.int .i64 (0))), (.sc (.int .i64 (0)))], [(.sc (.int .i64 (5))), (.sc (.int .i64 (1))), (.sc (.int .i64 (3))), (.lst [] none), (.sc (.int .i64 (0))), (.sc (.int .i64 (0)))]] none)), (.r (.lst [] none))]), (.r (.sc (.int .i64 (2))))], (.r (.lst [[(.sc (.int .i64 (2)))], [(.sc (.int .i64 (-1)))]] none))⟩
theorem r_sp2 : callT Go.Proofs.Tryz.prog cfg (orcT (famT awakeFams) (knownT [k_sq, k_chk, k_sp1])) 1000 k_sp2.f k_sp2.args ⟨[], false, none⟩ = some (k_sp2.val, ⟨[], false, none⟩, none) := by kernel_rfl
theorem ks_sp2 : ∀ k, k ∈ ([k_sq, k_chk, k_sp1] : List Known) → Known.Good Go.Proofs.Tryz.prog k := by
  intro k hk
  simp only [List.mem_cons, List.not_mem_nil, or_false] at hk
  rcases hk with rfl | rfl | rfl
  · exact g_sq
  · exact g_chk
  · exact g_sp1
theorem g_sp2 : k_sp2.Good Go.Proofs.Tryz.prog := known_of (sound (orc_sound (famT_sound awakeFams_good) (known_sound ks_sp2)) 1000) r_sp2 (by decide) (by decide)
def k_sp3 : Known := ⟨35, [(.agg [(.r (.lst [[(.sc (.int .i64 (1))), (.sc (.int .i64 (0))), (.sc (.int .i64 (0)))], [(.sc (.int .i64 (2))), (.sc (.int .i64 (9))), (.sc (.int .i64 (0)))], [(.sc (.int .i64 (3))), (.sc (.int .i64 (9))), (.sc (.int .i64 (9)))], [(.sc (.int .i64 (4))), (.sc (.int .i64 (0))), (.sc (.int .i64 (9)))]] none)), (.r (.lst [[(.sc (.int .i64 (1))), (.sc (.int .i64 (1))), (.sc (.int .i64 (2))), (.lst [] none), (.sc (.int .i64 (0))), (.sc (.int .i64 (0)))], [(.sc (.int .i64 (2))), (.sc (.int .i64 (2))), (.sc (.int .i64 (3))), (.lst [] none), (.sc (.int .i64 (0))), (.sc (.int .i64 (0)))], [(.sc (.int .i64 (3))), (.sc (.int .i64 (3))), (.sc (.int .i64 (4))), (.lst [] none), (.sc (.int .i64 (0))), (.sc (.int .i64 (0)))], [(.sc (.int .i64 (4))), (.sc (.int .i64 (4))), (.sc (.int .i64 (1))), (.lst [] none), (.sc (.int .i64 (0))), (.sc (.int .i64 (0)))], [(.sc (.int .i64 (5))), (.sc (.int .i64 (1))), (.sc (.int .i64 (3))), (.lst [] none), (.sc (.int .i64 (0))), (.sc (.int .i64 (0)))]] none)), (.r (.lst [] none))]), (.r (.sc (.int .i64 (3))))], (.r (.lst [[(.sc (.int .i64 (3)))], [(.sc (.int .i64 (-5)))], [(.sc (.int .i64 (-2)))]] none))⟩
theorem r_sp3 : callT Go.Proofs.Tryz.prog cfg (orcT (famT awakeFams) (knownT [k_sq, k_chk, k_sp1, k_sp2])) 1000 k_sp3.f k_sp3.args ⟨[], false, none⟩ = some (k_sp3.val, ⟨[], false, none⟩, none) := by kernel_rfl
theorem ks_sp3 : ∀ k, k ∈ ([k_sq, k_chk, k_sp1, k_sp2] : List Known) → Known.Good Go.Proofs.Tryz.prog k := by
  intro k hk
  simp only [List.mem_cons, List.not_mem_nil, or_false] at hk
  rcases hk with rfl | rfl | rfl | rfl
  · exact g_sq
  · exact g_chk
  · exact g_sp1
  · exact g_sp2
theorem g_sp3 : k_sp3.Good Go.Proofs.Tryz.prog := known_of (sound (orc_sound (famT_sound awakeFams_good) (known_sound ks_sp3)) 1000) r_sp3 (by decide) (by decide)
def k_sp4 : Known := ⟨35, [(.agg [(.r (.lst [[(.sc (.int .i64 (1))), (.sc (.int .i64 (0))), (.sc (.int .i64 (0)))], [(.sc (.int .i64 (2))), (.sc (.int .i64 (9))), (.sc (.int .i64 (0)))], [(.sc (.int .i64 (3))), (.sc (.int .i64 (9))), (.sc (.int .i64 (9)))], [(.sc (.int .i64 (4))), (.sc (.int .i64 (0))), (.sc (.int .i64 (9)))]] none)), (.r (.lst [[(.sc (.int .i64 (1))), (.sc (.int .i64 (1))), (.sc (.int .i64 (2))), (.lst [] none), (.sc (.int .i64 (0))), (.sc (.int .i64 (0)))], [(.sc (.int .i64 (2))), (.sc (.int .i64 (2))), (.sc (.int .i64 (3))), (.lst [] none), (.sc (.int .i64 (0))), (.sc (.int .i64 (0)))], [(.sc (.int .i64 (3))), (.sc (.int .i64 (3))), (.sc (.int .i64 (4))), (.lst [] none), (.sc (.int .i64 (0))), (.sc (.int .i64 (0)))], [(.sc (.int .i64 (4))), (.sc (.int .i64 (4))), (.sc (.int .i64 (1))), (.lst [] none), (.sc (.int .i64 (0))), (.sc (.int .i64 (0)))], [(.sc (.int .i64 (5))), (.sc (.int .i64 (1))), (.sc (.int .i64 (3))), (.lst [] none), (.sc (.int .i64 (0))), (.sc (.int .i64 (0)))]] none)), (.r (.lst [] none))]), (.r (.sc (.int .i64 (4))))], (.r (.lst [[(.sc (.int .i64 (-3)))], [(.sc (.int .i64 (4)))]] none))⟩
theorem r_sp4 : callT Go.Proofs.Tryz.prog cfg (orcT (famT awakeFams) (knownT [k_sq, k_chk, k_sp1, k_sp2, k_sp3])) 1000 k_sp4.f k_sp4.args ⟨[], false, none⟩ = some (k_sp4.val, ⟨[], false, none⟩, none) := by kernel_rfl
theorem ks_sp4 : ∀ k, k ∈ ([k_sq, k_chk, k_sp1, k_sp2, k_sp3] : List Known) → Known.Good Go.Proofs.Tryz.prog k := by
  intro k hk
  simp only [List.mem_cons, List.not_mem_nil, or_false] at hk
  rcases hk with rfl | rfl | rfl | rfl | rfl
  · exact g_sq
  · exact g_chk
  · exact g_sp1
  · exact g_sp2
  · exact g_sp3
theorem g_sp4 : k_sp4.Good Go.Proofs.Tryz.prog := known_of (sound (orc_sound (famT_sound awakeFams_good) (known_sound ks_sp4)) 1000) r_sp4 (by decide) (by decide)
def k_cyc : Known := ⟨22, [(.agg [(.r (.lst [[(.sc (.int .i64 (1))), (.sc (.int .i64 (0))), (.sc (.int .i64 (0)))], [(.sc (.int .i64 (2))), (.sc (.int .i64 (9))), (.sc (.int .i64 (0)))], [(.sc (.int .i64 (3))), (.sc (.int .i64 (9))), (.sc (.int .i64 (9)))], [(.sc (.int .i64 (4))), (.sc (.int .i64 (0))), (.sc (.int .i64 (9)))]] none)), (.r (.lst [[(.sc (.int .i64 (1))), (.sc (.int .i64 (1))), (.sc (.int .i64 (2))), (.lst [] none), (.sc (.int .i64 (0))), (.sc (.int .i64 (0)))], [(.sc (.int .i64 (2))), (.sc (.int .i64 (2))), (.sc (.int .i64 (3))), (.lst [] none), (.sc (.int .i64 (0))), (.sc (.int .i64 (0)))], [(.sc (.int .i64 (3))), (.sc (.int .i64 (3))), (.sc (.int .i64 (4))), (.lst [] none), (.sc (.int .i64 (0))), (.sc (.int .i64 (0)))], [(.sc (.int .i64 (4))), (.sc (.int .i64 (4))), (.sc (.int .i64 (1))), (.lst [] none), (.sc (.int .i64 (0))), (.sc (.int .i64 (0)))], [(.sc (.int .i64 (5))), (.sc (.int .i64 (1))), (.sc (.int .i64 (3))), (.lst [] none), (.sc (.int .i64 (0))), (.sc (.int .i64 (0)))]] none)), (.r (.lst [] none))])], (.tup [(.r (.lst [[(.lst [[(.sc (.int .i64 (-5)))], [(.sc (.int .i64 (1)))], [(.sc (.int .i64 (2)))]] none)], [(.lst [[(.sc (.int .i64 (-4)))], [(.sc (.int .i64 (-3)))], [(.sc (.int .i64 (-2)))], [(.sc (.int .i64 (-1)))]] none)], [(.lst [[(.sc (.int .i64 (3)))], [(.sc (.int .i64 (4)))], [(.sc (.int .i64 (5)))]] none)]] none)), (.r (.sc (.int .i64 (0))))])⟩
theorem r_cyc : callT Go.Proofs.Tryz.prog cfg (orcT (famT awakeFams) (knownT [k_sq, k_chk, k_sp1, k_sp2, k_sp3, k_sp4])) 1000 k_cyc.f k_cyc.args ⟨[], false, none⟩ = some (k_cyc.val, ⟨[], false, none⟩, none) := by kernel_rfl
theorem ks_cyc : ∀ k, k ∈ ([k_sq, k_chk, k_sp1, k_sp2, k_sp3, k_sp4] : List Known) → Known.Good Go.Proofs.Tryz.prog k := by
  intro k hk
  simp only [List.mem_cons, List.not_mem_nil, or_false] at hk
  rcases hk with rfl | rfl | rfl | rfl | rfl | rfl
  · exact g_sq
  · exact g_chk
  · exact g_sp1
  · exact g_sp2
  · exact g_sp3
  · exact g_sp4
theorem g_cyc : k_cyc.Good Go.Proofs.Tryz.prog := known_of (sound (orc_sound (famT_sound awakeFams_good) (known_sound ks_cyc)) 1000) r_cyc (by decide) (by decide)
def k_eul : Known := ⟨27, [(.agg [(.r (.lst [[(.sc (.int .i64 (1))), (.sc (.int .i64 (0))), (.sc (.int .i64 (0)))], [(.sc (.int .i64 (2))), (.sc (.int .i64 (9))), (.sc (.int .i64 (0)))], [(.sc (.int .i64 (3))), (.sc (.int .i64 (9))), (.sc (.int .i64 (9)))], [(.sc (.int .i64 (4))), (.sc (.int .i64 (0))), (.sc (.int .i64 (9)))]] none)), (.r (.lst [[(.sc (.int .i64 (1))), (.sc (.int .i64 (1))), (.sc (.int .i64 (2))), (.lst [] none), (.sc (.int .i64 (0))), (.sc (.int .i64 (0)))], [(.sc (.int .i64 (2))), (.sc (.int .i64 (2))), (.sc (.int .i64 (3))), (.lst [] none), (.sc (.int .i64 (0))), (.sc (.int .i64 (0)))], [(.sc (.int .i64 (3))), (.sc (.int .i64 (3))), (.sc (.int .i64 (4))), (.lst [] none), (.sc (.int .i64 (0))), (.sc (.int .i64 (0)))], [(.sc (.int .i64 (4))), (.sc (.int .i64 (4))), (.sc (.int .i64 (1))), (.lst [] none), (.sc (.int .i64 (0))), (.sc (.int .i64 (0)))], [(.sc (.int .i64 (5))), (.sc (.int .i64 (1))), (.sc (.int .i64 (3))), (.lst [] none), (.sc (.int .i64 (0))), (.sc (.int .i64 (0)))]] none)), (.r (.lst [] none))])], (.tup [(.r (.sc (.int .i64 (4)))), (.r (.sc (.int .i64 (5)))), (.r (.sc (.int .i64 (3)))), (.r (.sc (.int .i64 (1)))), (.r (.sc (.int .i64 (0))))])⟩
theorem r_eul : callT Go.Proofs.Tryz.prog cfg (orcT (famT awakeFams) (knownT [k_sq, k_chk, k_sp1, k_sp2, k_sp3, k_sp4, k_cyc])) 1000 k_eul.f k_eul.args ⟨[], false, none⟩ = some (k_eul.val, ⟨[], false, none⟩, none) := by kernel_rfl
theorem ks_eul : ∀ k, k ∈ ([k_sq, k_chk, k_sp1, k_sp2, k_sp3, k_sp4, k_cyc] : List Known) → Known.Good Go.Proofs.Tryz.prog k := by
  intro k hk
  simp only [List.mem_cons, List.not_mem_nil, or_false] at hk
  rcases hk with rfl | rfl | rfl | rfl | rfl | rfl | rfl
  · exact g_sq
  · exact g_chk
  · exact g_sp1
  · exact g_sp2
  · exact g_sp3
  · exact g_sp4
  · exact g_cyc
theorem g_eul : k_eul.Good Go.Proofs.Tryz.prog := known_of (sound (orc_sound (famT_sound awakeFams_good) (known_sound ks_eul)) 1000) r_eul (by decide) (by decide)
def k_awake : Known := ⟨14, [], (.r (.sc (.bool true)))⟩
theorem r_awake : callT Go.Proofs.Tryz.prog cfg (orcT (famT awakeFams) (knownT [k_sq, k_chk, k_sp1, k_sp2, k_sp3, k_sp4, k_cyc, k_eul])) 1000 k_awake.f k_awake.args ⟨[], false, none⟩ = some (k_awake.val, ⟨[], false, none⟩, none) := by kernel_rfl
theorem ks_awake : ∀ k, k ∈ ([k_sq, k_chk, k_sp1, k_sp2, k_sp3, k_sp4, k_cyc, k_eul] : List Known) → Known.Good Go.Proofs.Tryz.prog k := by
  intro k hk
  simp only [List.mem_cons, List.not_mem_nil, or_false] at hk
  rcases hk with rfl | rfl | rfl | rfl | rfl | rfl | rfl | rfl
  · exact g_sq
  · exact g_chk
  · exact g_sp1
  · exact g_sp2
  · exact g_sp3
  · exact g_sp4
  · exact g_cyc
  · exact g_eul
theorem g_awake : k_awake.Good Go.Proofs.Tryz.prog := known_of (sound (orc_sound (famT_sound awakeFams_good) (known_sound ks_awake)) 1000) r_awake (by decide) (by decide)
end Go.TL
