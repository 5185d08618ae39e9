/- Functions of the program, made ready (printed by program). -/
import Derived.Test.YtbobgmjenekahaaGreatCfg
import Derived.Test.YtbobgmjenekahaaGreatTG
import Derived.KernelRfl
set_option linter.unusedVariables false
set_option linter.unusedSimpArgs false
namespace Go.TL
set_option maxRecDepth 1000000
/- 126: slices.Clone[[]mapsheets/api.Point,mapsheets/api.Point] -/
def x126B : CC :=
  (.seq (.region [2] [] [⟨(some 2), none, true, false, [], (.val (.const (.slice none 0 0)))⟩])
  (.seq (.seq (.region [4] [] [⟨(some 3), none, true, false, [], (.val (.tmp 0))⟩,
    ⟨(some 4), none, false, false, [], (.bin .eql 48 (.tmp 3) (.const (.slice none 0 0)) 48)⟩])
  (.cond (.tmp 4)
   (.seq (.region [2] [] [⟨(some 2), none, true, false, [], (.val (.const (.slice none 0 0)))⟩])
   .ret)
   .skip))
  (.seq (.region [2] [] [⟨(some 5), none, false, false, [], (.buildSl 0 2 [] [])⟩,
    ⟨(some 6), none, true, false, [], (.val (.tmp 0))⟩,
    ⟨(some 7), none, false, false, [], (.app 2 16 (.tmp 5) (.tmp 6))⟩,
    ⟨(some 2), none, true, false, [], (.val (.tmp 7))⟩])
  .ret)))
def x126 : XF := ⟨8, true, true, [], [.tmp 2], x126B⟩
theorem cx126 : compF Go.Proofs.Tryz.prog cfg 126 = some x126 := by kernel_rfl
/- 21: mapsheets/mapsheetsref15.Small -/
def x21L0 : CC :=
  (.seq (.seq (.region [25] [] [⟨(some 21), none, true, false, [], (.val (.tmp 4))⟩,
    ⟨(some 22), none, true, false, [], (.faddr 1 (.tmp 1))⟩,
    ⟨(some 23), none, false, false, [], (.load 1 false (.tmp 22))⟩,
    ⟨(some 24), none, false, false, [], (.len (.tmp 23))⟩,
    ⟨(some 25), none, false, false, [], (.bin .lss 3 (.tmp 21) (.tmp 24) 3)⟩])
  (.cond (.tmp 25)
   .skip
   (.exit 0)))
  (.seq (.block 1
   (.seq (.seq (.region [35] [] [⟨(some 28), none, true, false, [], (.faddr 1 (.tmp 1))⟩,
     ⟨(some 29), none, false, false, [], (.load 1 false (.tmp 28))⟩,
     ⟨(some 30), none, true, false, [], (.val (.tmp 4))⟩,
     ⟨(some 31), none, true, false, [], (.isl 6 (.tmp 29) (.tmp 30))⟩,
     ⟨(some 32), none, true, false, [], (.faddr 3 (.tmp 31))⟩,
     ⟨(some 33), none, false, false, [], (.load 1 false (.tmp 32))⟩,
     ⟨(some 34), none, false, false, [], (.len (.tmp 33))⟩,
     ⟨(some 35), none, false, false, [], (.bin .gtr 3 (.tmp 34) (.const (.int .i64 (300))) 3)⟩])
   (.cond (.tmp 35)
    (.seq (.region [2] [] [⟨(some 2), none, true, false, [], (.val (.const (.bool false)))⟩])
    .ret)
    .skip))
   (.region [3] [] [⟨(some 36), none, true, false, [], (.val (.tmp 3))⟩,
     ⟨(some 37), none, true, false, [], (.faddr 1 (.tmp 1))⟩,
     ⟨(some 38), none, false, false, [], (.load 1 false (.tmp 37))⟩,
     ⟨(some 39), none, true, false, [], (.val (.tmp 4))⟩,
     ⟨(some 40), none, true, false, [], (.isl 6 (.tmp 38) (.tmp 39))⟩,
     ⟨(some 41), none, true, false, [], (.faddr 3 (.tmp 40))⟩,
     ⟨(some 42), none, false, false, [], (.load 1 false (.tmp 41))⟩,
     ⟨(some 43), none, false, false, [], (.len (.tmp 42))⟩,
     ⟨(some 44), none, false, false, [], (.bin .add 3 (.tmp 36) (.tmp 43) 3)⟩,
     ⟨(some 3), none, true, false, [], (.val (.tmp 44))⟩])))
  (.region [4] [] [⟨(some 26), none, true, false, [], (.val (.tmp 4))⟩,
    ⟨(some 27), none, false, false, [], (.bin .add 3 (.tmp 26) (.const (.int .i64 (1))) 3)⟩,
    ⟨(some 4), none, true, false, [], (.val (.tmp 27))⟩])))
def x21B : CC :=
  (.seq (.region [1, 2] [] [⟨(some 1), none, false, true, [], (.box true (.tmp 0))⟩,
    ⟨(some 2), none, true, false, [], (.val (.const (.bool false)))⟩])
  (.seq (.seq (.region [20] [] [⟨(some 5), none, true, false, [], (.faddr 0 (.tmp 1))⟩,
    ⟨(some 6), none, false, false, [], (.load 1 false (.tmp 5))⟩,
    ⟨(some 7), none, false, false, [], (.len (.tmp 6))⟩,
    ⟨(some 8), none, false, false, [], (.bin .gtr 3 (.tmp 7) (.const (.int .i64 (40))) 3)⟩,
    ⟨(some 9), none, true, false, [], (.val (.tmp 8))⟩,
    ⟨(some 10), (some (9, false)), true, false, [], (.faddr 1 (.tmp 1))⟩,
    ⟨(some 11), (some (9, false)), false, false, [], (.load 1 false (.tmp 10))⟩,
    ⟨(some 12), (some (9, false)), false, false, [], (.len (.tmp 11))⟩,
    ⟨(some 13), (some (9, false)), false, false, [], (.bin .gtr 3 (.tmp 12) (.const (.int .i64 (40))) 3)⟩,
    ⟨(some 14), none, true, false, [], (.pick (.tmp 9) (.const (.bool true)) (.tmp 13))⟩,
    ⟨(some 15), none, true, false, [], (.val (.tmp 14))⟩,
    ⟨(some 16), (some (15, false)), true, false, [], (.faddr 2 (.tmp 1))⟩,
    ⟨(some 17), (some (15, false)), false, false, [], (.load 1 false (.tmp 16))⟩,
    ⟨(some 18), (some (15, false)), false, false, [], (.len (.tmp 17))⟩,
    ⟨(some 19), (some (15, false)), false, false, [], (.bin .gtr 3 (.tmp 18) (.const (.int .i64 (80))) 3)⟩,
    ⟨(some 20), none, true, false, [], (.pick (.tmp 15) (.const (.bool true)) (.tmp 19))⟩])
  (.cond (.tmp 20)
   (.seq (.region [2] [] [⟨(some 2), none, true, false, [], (.val (.const (.bool false)))⟩])
   .ret)
   .skip))
  (.seq (.region [3] [] [⟨(some 3), none, true, false, [], (.val (.const (.int .i64 (0))))⟩])
  (.seq (.seq (.region [4] [] [⟨(some 4), none, true, false, [], (.val (.const (.int .i64 (0))))⟩])
  (.block 0
   (.loop x21L0)))
  (.seq (.region [2] [] [⟨(some 45), none, true, false, [], (.val (.tmp 3))⟩,
    ⟨(some 46), none, false, false, [], (.bin .leq 3 (.tmp 45) (.const (.int .i64 (300))) 3)⟩,
    ⟨(some 2), none, true, false, [], (.val (.tmp 46))⟩])
  .ret)))))
def x21 : XF := ⟨47, false, false, [1], [.tmp 2], x21B⟩
theorem cx21 : compF Go.Proofs.Tryz.prog cfg 21 = some x21 := by kernel_rfl
/- 54: mapsheets/mapsheetsref14.limits -/
def x54L0 : CC :=
  (.seq (.seq (.region [8] [] [⟨(some 4), none, true, false, [], (.val (.tmp 3))⟩,
    ⟨(some 5), none, true, false, [], (.faddr 1 (.tmp 1))⟩,
    ⟨(some 6), none, false, false, [], (.load 1 false (.tmp 5))⟩,
    ⟨(some 7), none, false, false, [], (.len (.tmp 6))⟩,
    ⟨(some 8), none, false, false, [], (.bin .lss 3 (.tmp 4) (.tmp 7) 3)⟩])
  (.cond (.tmp 8)
   .skip
   (.exit 0)))
  (.seq (.block 1
   (.seq (.region [18] [] [⟨(some 11), none, true, false, [], (.faddr 1 (.tmp 1))⟩,
     ⟨(some 12), none, false, false, [], (.load 1 false (.tmp 11))⟩,
     ⟨(some 13), none, true, false, [], (.val (.tmp 3))⟩,
     ⟨(some 14), none, true, false, [], (.isl 6 (.tmp 12) (.tmp 13))⟩,
     ⟨(some 15), none, true, false, [], (.faddr 3 (.tmp 14))⟩,
     ⟨(some 16), none, false, false, [], (.load 1 false (.tmp 15))⟩,
     ⟨(some 17), none, false, false, [], (.len (.tmp 16))⟩,
     ⟨(some 18), none, false, false, [], (.bin .gtr 3 (.tmp 17) (.const (.int .i64 (64))) 3)⟩])
   (.cond (.tmp 18)
    (.seq (.region [2] [] [⟨(some 2), none, true, false, [], (.val (.const (.bool true)))⟩])
    .ret)
    .skip)))
  (.region [3] [] [⟨(some 9), none, true, false, [], (.val (.tmp 3))⟩,
    ⟨(some 10), none, false, false, [], (.bin .add 3 (.tmp 9) (.const (.int .i64 (1))) 3)⟩,
    ⟨(some 3), none, true, false, [], (.val (.tmp 10))⟩])))
def x54B : CC :=
  (.seq (.region [1, 2] [] [⟨(some 1), none, false, true, [], (.box true (.tmp 0))⟩,
    ⟨(some 2), none, true, false, [], (.val (.const (.bool false)))⟩])
  (.seq (.seq (.region [3] [] [⟨(some 3), none, true, false, [], (.val (.const (.int .i64 (0))))⟩])
  (.block 0
   (.loop x54L0)))
  (.seq (.region [2] [] [⟨(some 19), none, true, false, [], (.faddr 0 (.tmp 1))⟩,
    ⟨(some 20), none, false, false, [], (.load 1 false (.tmp 19))⟩,
    ⟨(some 21), none, false, false, [], (.len (.tmp 20))⟩,
    ⟨(some 22), none, false, false, [], (.bin .gtr 3 (.tmp 21) (.const (.int .i64 (256))) 3)⟩,
    ⟨(some 23), none, true, false, [], (.val (.tmp 22))⟩,
    ⟨(some 24), (some (23, false)), true, false, [], (.faddr 1 (.tmp 1))⟩,
    ⟨(some 25), (some (23, false)), false, false, [], (.load 1 false (.tmp 24))⟩,
    ⟨(some 26), (some (23, false)), false, false, [], (.len (.tmp 25))⟩,
    ⟨(some 27), (some (23, false)), false, false, [], (.bin .gtr 3 (.tmp 26) (.const (.int .i64 (256))) 3)⟩,
    ⟨(some 28), none, true, false, [], (.pick (.tmp 23) (.const (.bool true)) (.tmp 27))⟩,
    ⟨(some 29), none, true, false, [], (.val (.tmp 28))⟩,
    ⟨(some 30), (some (29, false)), true, false, [], (.faddr 2 (.tmp 1))⟩,
    ⟨(some 31), (some (29, false)), false, false, [], (.load 1 false (.tmp 30))⟩,
    ⟨(some 32), (some (29, false)), false, false, [], (.len (.tmp 31))⟩,
    ⟨(some 33), (some (29, false)), false, false, [], (.bin .gtr 3 (.tmp 32) (.const (.int .i64 (64))) 3)⟩,
    ⟨(some 34), none, true, false, [], (.pick (.tmp 29) (.const (.bool true)) (.tmp 33))⟩,
    ⟨(some 2), none, true, false, [], (.val (.tmp 34))⟩])
  .ret)))
def x54 : XF := ⟨35, false, false, [1], [.tmp 2], x54B⟩
theorem cx54 : compF Go.Proofs.Tryz.prog cfg 54 = some x54 := by kernel_rfl
/- 56: mapsheets/mapsheetsref14.ids -/
def x56L0 : CC :=
  (.seq (.seq (.region [16] [] [⟨(some 8), none, true, false, [], (.val (.tmp 6))⟩,
    ⟨(some 9), none, true, false, [], (.faddr 0 (.tmp 2))⟩,
    ⟨(some 10), none, false, false, [], (.load 1 false (.tmp 9))⟩,
    ⟨(some 11), none, false, false, [], (.len (.tmp 10))⟩,
    ⟨(some 12), none, false, false, [], (.bin .lss 3 (.tmp 8) (.tmp 11) 3)⟩,
    ⟨(some 13), none, true, false, [], (.val (.tmp 12))⟩,
    ⟨(some 14), (some (13, true)), true, false, [], (.val (.tmp 1))⟩,
    ⟨(some 15), (some (13, true)), false, false, [], (.not (.tmp 14) 4)⟩,
    ⟨(some 16), none, true, false, [], (.pick (.tmp 13) (.tmp 15) (.const (.bool false)))⟩])
  (.cond (.tmp 16)
   .skip
   (.exit 0)))
  (.seq (.block 1
   (.region [5] [] [⟨(some 19), none, true, false, [], (.val (.tmp 5))⟩,
     ⟨(some 20), none, true, false, [], (.faddr 0 (.tmp 2))⟩,
     ⟨(some 21), none, false, false, [], (.load 1 false (.tmp 20))⟩,
     ⟨(some 22), none, true, false, [], (.val (.tmp 6))⟩,
     ⟨(some 23), none, true, false, [], (.isl 3 (.tmp 21) (.tmp 22))⟩,
     ⟨(some 24), none, true, false, [], (.faddr 0 (.tmp 23))⟩,
     ⟨(some 25), none, false, false, [], (.load 1 false (.tmp 24))⟩,
     ⟨(some 26), none, false, false, [], (.buildSl 1 1 [(.r (.sc (.int .i64 (0))))] [(0, 1, (.tmp 25))])⟩,
     ⟨(some 27), none, false, false, [], (.app 1 8 (.tmp 19) (.tmp 26))⟩,
     ⟨(some 5), none, true, false, [], (.val (.tmp 27))⟩]))
  (.region [6] [] [⟨(some 17), none, true, false, [], (.val (.tmp 6))⟩,
    ⟨(some 18), none, false, false, [], (.bin .add 3 (.tmp 17) (.const (.int .i64 (1))) 3)⟩,
    ⟨(some 6), none, true, false, [], (.val (.tmp 18))⟩])))
def x56L1 : CC :=
  (.seq (.seq (.region [35] [] [⟨(some 28), none, true, false, [], (.val (.tmp 7))⟩,
    ⟨(some 29), none, true, false, [], (.faddr 1 (.tmp 2))⟩,
    ⟨(some 30), none, false, false, [], (.load 1 false (.tmp 29))⟩,
    ⟨(some 31), none, false, false, [], (.len (.tmp 30))⟩,
    ⟨(some 32), none, false, false, [], (.bin .lss 3 (.tmp 28) (.tmp 31) 3)⟩,
    ⟨(some 33), none, true, false, [], (.val (.tmp 32))⟩,
    ⟨(some 34), (some (33, true)), true, false, [], (.val (.tmp 1))⟩,
    ⟨(some 35), none, true, false, [], (.pick (.tmp 33) (.tmp 34) (.const (.bool false)))⟩])
  (.cond (.tmp 35)
   .skip
   (.exit 2)))
  (.seq (.block 3
   (.region [5] [] [⟨(some 38), none, true, false, [], (.val (.tmp 5))⟩,
     ⟨(some 39), none, true, false, [], (.faddr 1 (.tmp 2))⟩,
     ⟨(some 40), none, false, false, [], (.load 1 false (.tmp 39))⟩,
     ⟨(some 41), none, true, false, [], (.val (.tmp 7))⟩,
     ⟨(some 42), none, true, false, [], (.isl 6 (.tmp 40) (.tmp 41))⟩,
     ⟨(some 43), none, true, false, [], (.faddr 0 (.tmp 42))⟩,
     ⟨(some 44), none, false, false, [], (.load 1 false (.tmp 43))⟩,
     ⟨(some 45), none, false, false, [], (.buildSl 1 1 [(.r (.sc (.int .i64 (0))))] [(0, 1, (.tmp 44))])⟩,
     ⟨(some 46), none, false, false, [], (.app 1 8 (.tmp 38) (.tmp 45))⟩,
     ⟨(some 5), none, true, false, [], (.val (.tmp 46))⟩]))
  (.region [7] [] [⟨(some 36), none, true, false, [], (.val (.tmp 7))⟩,
    ⟨(some 37), none, false, false, [], (.bin .add 3 (.tmp 36) (.const (.int .i64 (1))) 3)⟩,
    ⟨(some 7), none, true, false, [], (.val (.tmp 37))⟩])))
def x56B : CC :=
  (.seq (.region [2, 4] [] [⟨(some 2), none, false, true, [], (.box true (.tmp 0))⟩,
    ⟨(some 4), none, true, false, [], (.val (.const (.slice none 0 0)))⟩])
  (.seq (.region [5] [] [⟨(some 5), none, true, false, [], (.val (.const (.slice none 0 0)))⟩])
  (.seq (.seq (.region [6] [] [⟨(some 6), none, true, false, [], (.val (.const (.int .i64 (0))))⟩])
  (.block 0
   (.loop x56L0)))
  (.seq (.seq (.region [7] [] [⟨(some 7), none, true, false, [], (.val (.const (.int .i64 (0))))⟩])
  (.block 2
   (.loop x56L1)))
  (.seq (.region [4] [] [⟨(some 47), none, true, false, [], (.val (.tmp 5))⟩,
    ⟨(some 4), none, true, false, [], (.val (.tmp 47))⟩])
  .ret)))))
def x56 : XF := ⟨48, false, true, [2], [.tmp 4], x56B⟩
theorem cx56 : compF Go.Proofs.Tryz.prog cfg 56 = some x56 := by kernel_rfl
/- 55: mapsheets/mapsheetsref14.ascending -/
def x55L0 : CC :=
  (.seq (.seq (.region [7] [] [⟨(some 4), none, true, false, [], (.val (.tmp 3))⟩,
    ⟨(some 5), none, true, false, [], (.val (.tmp 0))⟩,
    ⟨(some 6), none, false, false, [], (.len (.tmp 5))⟩,
    ⟨(some 7), none, false, false, [], (.bin .lss 3 (.tmp 4) (.tmp 6) 3)⟩])
  (.cond (.tmp 7)
   .skip
   (.exit 0)))
  (.seq (.block 1
   (.seq (.region [19] [(3, 7), (4, 7), (3, 8), (4, 8)] [⟨(some 10), none, true, false, [], (.val (.tmp 0))⟩,
     ⟨(some 11), none, true, false, [], (.val (.tmp 3))⟩,
     ⟨(some 12), none, false, false, [], (.bin .sub 3 (.tmp 11) (.const (.int .i64 (1))) 3)⟩,
     ⟨(some 13), none, true, false, [], (.isl 1 (.tmp 10) (.tmp 12))⟩,
     ⟨(some 14), none, false, false, [], (.load 1 false (.tmp 13))⟩,
     ⟨(some 15), none, true, false, [], (.val (.tmp 0))⟩,
     ⟨(some 16), none, true, false, [], (.val (.tmp 3))⟩,
     ⟨(some 17), none, true, false, [], (.isl 1 (.tmp 15) (.tmp 16))⟩,
     ⟨(some 18), none, false, false, [], (.load 1 false (.tmp 17))⟩,
     ⟨(some 19), none, false, false, [], (.bin .geq 3 (.tmp 14) (.tmp 18) 3)⟩])
   (.cond (.tmp 19)
    (.seq (.region [2] [] [⟨(some 2), none, true, false, [], (.val (.const (.bool false)))⟩])
    .ret)
    .skip)))
  (.region [3] [] [⟨(some 8), none, true, false, [], (.val (.tmp 3))⟩,
    ⟨(some 9), none, false, false, [], (.bin .add 3 (.tmp 8) (.const (.int .i64 (1))) 3)⟩,
    ⟨(some 3), none, true, false, [], (.val (.tmp 9))⟩])))
def x55B : CC :=
  (.seq (.region [2] [] [⟨(some 2), none, true, false, [], (.val (.const (.bool false)))⟩])
  (.seq (.seq (.region [3] [] [⟨(some 3), none, true, false, [], (.val (.const (.int .i64 (1))))⟩])
  (.block 0
   (.loop x55L0)))
  (.seq (.region [2] [] [⟨(some 2), none, true, false, [], (.val (.const (.bool true)))⟩])
  .ret)))
def x55 : XF := ⟨20, false, false, [], [.tmp 2], x55B⟩
theorem cx55 : compF Go.Proofs.Tryz.prog cfg 55 = some x55 := by kernel_rfl
/- 86: mapsheets/mapsheetsref14.Points -/
def x86L0 : CC :=
  (.seq (.seq (.region [10] [] [⟨(some 6), none, true, false, [], (.val (.tmp 4))⟩,
    ⟨(some 7), none, true, false, [], (.faddr 0 (.tmp 1))⟩,
    ⟨(some 8), none, false, false, [], (.load 1 false (.tmp 7))⟩,
    ⟨(some 9), none, false, false, [], (.len (.tmp 8))⟩,
    ⟨(some 10), none, false, false, [], (.bin .lss 3 (.tmp 6) (.tmp 9) 3)⟩])
  (.cond (.tmp 10)
   .skip
   (.exit 0)))
  (.seq (.block 1
   (.region [3] [] [⟨(some 13), none, true, false, [], (.val (.tmp 3))⟩,
     ⟨(some 14), none, true, false, [], (.faddr 0 (.tmp 1))⟩,
     ⟨(some 15), none, false, false, [], (.load 1 false (.tmp 14))⟩,
     ⟨(some 16), none, true, false, [], (.val (.tmp 4))⟩,
     ⟨(some 17), none, true, false, [], (.isl 3 (.tmp 15) (.tmp 16))⟩,
     ⟨(some 18), none, true, false, [], (.faddr 1 (.tmp 17))⟩,
     ⟨(some 19), none, false, false, [], (.load 2 true (.tmp 18))⟩,
     ⟨(some 20), none, false, false, [], (.buildSl 1 2 [(.r (.sc (.int .i64 (0)))), (.r (.sc (.int .i64 (0))))] [(0, 2, (.tmp 19))])⟩,
     ⟨(some 21), none, false, false, [], (.app 2 16 (.tmp 13) (.tmp 20))⟩,
     ⟨(some 3), none, true, false, [], (.val (.tmp 21))⟩]))
  (.region [4] [] [⟨(some 11), none, true, false, [], (.val (.tmp 4))⟩,
    ⟨(some 12), none, false, false, [], (.bin .add 3 (.tmp 11) (.const (.int .i64 (1))) 3)⟩,
    ⟨(some 4), none, true, false, [], (.val (.tmp 12))⟩])))
def x86L1 : CC :=
  (.seq (.seq (.region [26] [] [⟨(some 22), none, true, false, [], (.val (.tmp 5))⟩,
    ⟨(some 23), none, true, false, [], (.faddr 1 (.tmp 1))⟩,
    ⟨(some 24), none, false, false, [], (.load 1 false (.tmp 23))⟩,
    ⟨(some 25), none, false, false, [], (.len (.tmp 24))⟩,
    ⟨(some 26), none, false, false, [], (.bin .lss 3 (.tmp 22) (.tmp 25) 3)⟩])
  (.cond (.tmp 26)
   .skip
   (.exit 2)))
  (.seq (.block 3
   (.region [3] [] [⟨(some 29), none, true, false, [], (.val (.tmp 3))⟩,
     ⟨(some 30), none, true, false, [], (.faddr 1 (.tmp 1))⟩,
     ⟨(some 31), none, false, false, [], (.load 1 false (.tmp 30))⟩,
     ⟨(some 32), none, true, false, [], (.val (.tmp 5))⟩,
     ⟨(some 33), none, true, false, [], (.isl 6 (.tmp 31) (.tmp 32))⟩,
     ⟨(some 34), none, true, false, [], (.faddr 3 (.tmp 33))⟩,
     ⟨(some 35), none, false, false, [], (.load 1 false (.tmp 34))⟩,
     ⟨(some 36), none, false, false, [], (.app 2 16 (.tmp 29) (.tmp 35))⟩,
     ⟨(some 3), none, true, false, [], (.val (.tmp 36))⟩]))
  (.region [5] [] [⟨(some 27), none, true, false, [], (.val (.tmp 5))⟩,
    ⟨(some 28), none, false, false, [], (.bin .add 3 (.tmp 27) (.const (.int .i64 (1))) 3)⟩,
    ⟨(some 5), none, true, false, [], (.val (.tmp 28))⟩])))
def x86B : CC :=
  (.seq (.region [1, 2] [] [⟨(some 1), none, false, true, [], (.box true (.tmp 0))⟩,
    ⟨(some 2), none, true, false, [], (.val (.const (.slice none 0 0)))⟩])
  (.seq (.region [3] [] [⟨(some 3), none, true, false, [], (.val (.const (.slice none 0 0)))⟩])
  (.seq (.seq (.region [4] [] [⟨(some 4), none, true, false, [], (.val (.const (.int .i64 (0))))⟩])
  (.block 0
   (.loop x86L0)))
  (.seq (.seq (.region [5] [] [⟨(some 5), none, true, false, [], (.val (.const (.int .i64 (0))))⟩])
  (.block 2
   (.loop x86L1)))
  (.seq (.region [2] [] [⟨(some 37), none, true, false, [], (.val (.tmp 3))⟩,
    ⟨(some 2), none, true, false, [], (.val (.tmp 37))⟩])
  .ret)))))
def x86 : XF := ⟨38, false, false, [1], [.tmp 2], x86B⟩
theorem cx86 : compF Go.Proofs.Tryz.prog cfg 86 = some x86 := by kernel_rfl
/- 87: mapsheets/mapsheetsref14.Valid -/
def x87B : CC :=
  (.seq (.region [1, 2] [] [⟨(some 1), none, false, true, [], (.box true (.tmp 0))⟩,
    ⟨(some 2), none, true, false, [], (.val (.const (.bool false)))⟩])
  (.seq (.region [2] [] [⟨(some 3), none, true, false, [], (.faddr 0 (.tmp 1))⟩,
    ⟨(some 4), none, false, false, [], (.load 1 false (.tmp 3))⟩,
    ⟨(some 5), none, false, false, [], (.bin .geq 3 (.tmp 4) (.const (.int .i64 (-1048576))) 3)⟩,
    ⟨(some 6), none, true, false, [], (.val (.tmp 5))⟩,
    ⟨(some 7), (some (6, true)), true, false, [], (.faddr 0 (.tmp 1))⟩,
    ⟨(some 8), (some (6, true)), false, false, [], (.load 1 false (.tmp 7))⟩,
    ⟨(some 9), (some (6, true)), false, false, [], (.bin .leq 3 (.tmp 8) (.const (.int .i64 (1048576))) 3)⟩,
    ⟨(some 10), none, true, false, [], (.pick (.tmp 6) (.tmp 9) (.const (.bool false)))⟩,
    ⟨(some 11), none, true, false, [], (.val (.tmp 10))⟩,
    ⟨(some 12), (some (11, true)), true, false, [], (.faddr 1 (.tmp 1))⟩,
    ⟨(some 13), (some (11, true)), false, false, [], (.load 1 false (.tmp 12))⟩,
    ⟨(some 14), (some (11, true)), false, false, [], (.bin .geq 3 (.tmp 13) (.const (.int .i64 (-1048576))) 3)⟩,
    ⟨(some 15), none, true, false, [], (.pick (.tmp 11) (.tmp 14) (.const (.bool false)))⟩,
    ⟨(some 16), none, true, false, [], (.val (.tmp 15))⟩,
    ⟨(some 17), (some (16, true)), true, false, [], (.faddr 1 (.tmp 1))⟩,
    ⟨(some 18), (some (16, true)), false, false, [], (.load 1 false (.tmp 17))⟩,
    ⟨(some 19), (some (16, true)), false, false, [], (.bin .leq 3 (.tmp 18) (.const (.int .i64 (1048576))) 3)⟩,
    ⟨(some 20), none, true, false, [], (.pick (.tmp 16) (.tmp 19) (.const (.bool false)))⟩,
    ⟨(some 2), none, true, false, [], (.val (.tmp 20))⟩])
  .ret))
def x87 : XF := ⟨21, false, false, [1], [.tmp 2], x87B⟩
theorem cx87 : compF Go.Proofs.Tryz.prog cfg 87 = some x87 := by kernel_rfl
/- 57: mapsheets/mapsheetsref14.ranges -/
def x57L0 : CC :=
  (.seq (.seq (.region [18] [] [⟨(some 15), none, true, false, [], (.val (.tmp 4))⟩,
    ⟨(some 16), none, true, false, [], (.val (.tmp 3))⟩,
    ⟨(some 17), none, false, false, [], (.len (.tmp 16))⟩,
    ⟨(some 18), none, false, false, [], (.bin .lss 3 (.tmp 15) (.tmp 17) 3)⟩])
  (.cond (.tmp 18)
   .skip
   (.exit 0)))
  (.seq (.block 1
   (.seq (.region [32] [] [⟨(some 21), none, true, false, [], (.val (.tmp 3))⟩,
     ⟨(some 22), none, true, false, [], (.val (.tmp 4))⟩,
     ⟨(some 23), none, true, false, [], (.isl 1 (.tmp 21) (.tmp 22))⟩,
     ⟨(some 24), none, false, false, [], (.load 1 false (.tmp 23))⟩,
     ⟨(some 25), none, false, false, [], (.bin .lss 3 (.tmp 24) (.const (.int .i64 (1))) 3)⟩,
     ⟨(some 26), none, true, false, [], (.val (.tmp 25))⟩,
     ⟨(some 27), (some (26, false)), true, false, [], (.val (.tmp 3))⟩,
     ⟨(some 28), (some (26, false)), true, false, [], (.val (.tmp 4))⟩,
     ⟨(some 29), (some (26, false)), true, false, [], (.isl 1 (.tmp 27) (.tmp 28))⟩,
     ⟨(some 30), (some (26, false)), false, false, [], (.load 1 false (.tmp 29))⟩,
     ⟨(some 31), (some (26, false)), false, false, [], (.bin .gtr 3 (.tmp 30) (.const (.int .i64 (1073741824))) 3)⟩,
     ⟨(some 32), none, true, false, [], (.pick (.tmp 26) (.const (.bool true)) (.tmp 31))⟩])
   (.cond (.tmp 32)
    (.seq (.region [2] [] [⟨(some 2), none, true, false, [], (.val (.const (.bool false)))⟩])
    .ret)
    .skip)))
  (.region [4] [] [⟨(some 19), none, true, false, [], (.val (.tmp 4))⟩,
    ⟨(some 20), none, false, false, [], (.bin .add 3 (.tmp 19) (.const (.int .i64 (1))) 3)⟩,
    ⟨(some 4), none, true, false, [], (.val (.tmp 20))⟩])))
def x57L1 : CC :=
  (.seq (.seq (.region [38] [] [⟨(some 35), none, true, false, [], (.val (.tmp 6))⟩,
    ⟨(some 36), none, true, false, [], (.val (.tmp 5))⟩,
    ⟨(some 37), none, false, false, [], (.len (.tmp 36))⟩,
    ⟨(some 38), none, false, false, [], (.bin .lss 3 (.tmp 35) (.tmp 37) 3)⟩])
  (.cond (.tmp 38)
   .skip
   (.exit 2)))
  (.seq (.block 3
   (.seq (.region [46] [] [⟨(some 41), none, true, false, [], (.val (.tmp 5))⟩,
     ⟨(some 42), none, true, false, [], (.val (.tmp 6))⟩,
     ⟨(some 43), none, true, false, [], (.isl 2 (.tmp 41) (.tmp 42))⟩,
     ⟨(some 44), none, false, false, [], (.load 2 true (.tmp 43))⟩,
     ⟨(some 45), none, false, false, [], (.call (.func 87) [(.tmp 44)])⟩,
     ⟨(some 46), none, false, false, [], (.not (.tmp 45) 4)⟩])
   (.cond (.tmp 46)
    (.seq (.region [2] [] [⟨(some 2), none, true, false, [], (.val (.const (.bool false)))⟩])
    .ret)
    .skip)))
  (.region [6] [] [⟨(some 39), none, true, false, [], (.val (.tmp 6))⟩,
    ⟨(some 40), none, false, false, [], (.bin .add 3 (.tmp 39) (.const (.int .i64 (1))) 3)⟩,
    ⟨(some 6), none, true, false, [], (.val (.tmp 40))⟩])))
def x57B : CC :=
  (.seq (.region [1, 2] [] [⟨(some 1), none, false, true, [], (.box true (.tmp 0))⟩,
    ⟨(some 2), none, true, false, [], (.val (.const (.bool false)))⟩])
  (.seq (.region [3] [(0, 2), (1, 2), (0, 6), (1, 6), (2, 6), (3, 6), (4, 6)] [⟨(some 7), none, false, false, [], (.load 3 true (.tmp 1))⟩,
    ⟨(some 8), none, false, false, [], (.call (.func 56) [(.tmp 7), (.const (.bool false))])⟩,
    ⟨(some 9), none, false, false, [], (.load 3 true (.tmp 1))⟩,
    ⟨(some 10), none, false, false, [], (.call (.func 56) [(.tmp 9), (.const (.bool true))])⟩,
    ⟨(some 11), none, false, false, [], (.app 1 8 (.tmp 8) (.tmp 10))⟩,
    ⟨(some 12), none, true, false, [], (.faddr 2 (.tmp 1))⟩,
    ⟨(some 13), none, false, false, [], (.load 1 false (.tmp 12))⟩,
    ⟨(some 14), none, false, false, [], (.app 1 8 (.tmp 11) (.tmp 13))⟩,
    ⟨(some 3), none, true, false, [], (.val (.tmp 14))⟩])
  (.seq (.seq (.region [4] [] [⟨(some 4), none, true, false, [], (.val (.const (.int .i64 (0))))⟩])
  (.block 0
   (.loop x57L0)))
  (.seq (.region [5] [] [⟨(some 33), none, false, false, [], (.load 3 true (.tmp 1))⟩,
    ⟨(some 34), none, false, false, [], (.call (.func 86) [(.tmp 33)])⟩,
    ⟨(some 5), none, true, false, [], (.val (.tmp 34))⟩])
  (.seq (.seq (.region [6] [] [⟨(some 6), none, true, false, [], (.val (.const (.int .i64 (0))))⟩])
  (.block 2
   (.loop x57L1)))
  (.seq (.region [2] [] [⟨(some 2), none, true, false, [], (.val (.const (.bool true)))⟩])
  .ret))))))
def x57 : XF := ⟨47, false, false, [1], [.tmp 2], x57B⟩
theorem cx57 : compF Go.Proofs.Tryz.prog cfg 57 = some x57 := by kernel_rfl
/- 58: mapsheets/mapsheetsref14.twice -/
def x58L0 : CC :=
  (.seq (.seq (.region [14] [] [⟨(some 12), none, true, false, [], (.val (.tmp 4))⟩,
    ⟨(some 13), none, true, false, [], (.val (.tmp 3))⟩,
    ⟨(some 14), none, false, false, [], (.bin .lss 3 (.tmp 12) (.tmp 13) 3)⟩])
  (.cond (.tmp 14)
   .skip
   (.exit 2)))
  (.seq (.block 3
   (.seq (.region [29] [(1, 7), (3, 7), (5, 7), (1, 9), (3, 9), (5, 9), (1, 11), (3, 11), (5, 11)] [⟨(some 17), none, true, false, [], (.faddr 0 (.tmp 1))⟩,
     ⟨(some 18), none, false, false, [], (.load 1 false (.tmp 17))⟩,
     ⟨(some 19), none, true, false, [], (.val (.tmp 3))⟩,
     ⟨(some 20), none, true, false, [], (.isl 3 (.tmp 18) (.tmp 19))⟩,
     ⟨(some 21), none, true, false, [], (.faddr 1 (.tmp 20))⟩,
     ⟨(some 22), none, false, false, [], (.load 2 true (.tmp 21))⟩,
     ⟨(some 23), none, true, false, [], (.faddr 0 (.tmp 1))⟩,
     ⟨(some 24), none, false, false, [], (.load 1 false (.tmp 23))⟩,
     ⟨(some 25), none, true, false, [], (.val (.tmp 4))⟩,
     ⟨(some 26), none, true, false, [], (.isl 3 (.tmp 24) (.tmp 25))⟩,
     ⟨(some 27), none, true, false, [], (.faddr 1 (.tmp 26))⟩,
     ⟨(some 28), none, false, false, [], (.load 2 true (.tmp 27))⟩,
     ⟨(some 29), none, false, false, [], (.bin .eql 44 (.tmp 22) (.tmp 28) 44)⟩])
   (.cond (.tmp 29)
    (.seq (.region [2] [] [⟨(some 2), none, true, false, [], (.val (.const (.bool true)))⟩])
    .ret)
    .skip)))
  (.region [4] [] [⟨(some 15), none, true, false, [], (.val (.tmp 4))⟩,
    ⟨(some 16), none, false, false, [], (.bin .add 3 (.tmp 15) (.const (.int .i64 (1))) 3)⟩,
    ⟨(some 4), none, true, false, [], (.val (.tmp 16))⟩])))
def x58L1 : CC :=
  (.seq (.seq (.region [9] [] [⟨(some 5), none, true, false, [], (.val (.tmp 3))⟩,
    ⟨(some 6), none, true, false, [], (.faddr 0 (.tmp 1))⟩,
    ⟨(some 7), none, false, false, [], (.load 1 false (.tmp 6))⟩,
    ⟨(some 8), none, false, false, [], (.len (.tmp 7))⟩,
    ⟨(some 9), none, false, false, [], (.bin .lss 3 (.tmp 5) (.tmp 8) 3)⟩])
  (.cond (.tmp 9)
   .skip
   (.exit 0)))
  (.seq (.block 1
   (.seq (.region [4] [] [⟨(some 4), none, true, false, [], (.val (.const (.int .i64 (0))))⟩])
   (.block 2
    (.loop x58L0))))
  (.region [3] [] [⟨(some 10), none, true, false, [], (.val (.tmp 3))⟩,
    ⟨(some 11), none, false, false, [], (.bin .add 3 (.tmp 10) (.const (.int .i64 (1))) 3)⟩,
    ⟨(some 3), none, true, false, [], (.val (.tmp 11))⟩])))
def x58B : CC :=
  (.seq (.region [1, 2] [] [⟨(some 1), none, false, true, [], (.box true (.tmp 0))⟩,
    ⟨(some 2), none, true, false, [], (.val (.const (.bool false)))⟩])
  (.seq (.seq (.region [3] [] [⟨(some 3), none, true, false, [], (.val (.const (.int .i64 (0))))⟩])
  (.block 0
   (.loop x58L1)))
  (.seq (.region [2] [] [⟨(some 2), none, true, false, [], (.val (.const (.bool false)))⟩])
  .ret)))
def x58 : XF := ⟨30, false, false, [1], [.tmp 2], x58B⟩
theorem cx58 : compF Go.Proofs.Tryz.prog cfg 58 = some x58 := by kernel_rfl
/- 36: mapsheets/mapsheetsref14.Node -/
def x36L0 : CC :=
  (.seq (.seq (.region [11] [] [⟨(some 7), none, true, false, [], (.val (.tmp 6))⟩,
    ⟨(some 8), none, true, false, [], (.faddr 0 (.tmp 2))⟩,
    ⟨(some 9), none, false, false, [], (.load 1 false (.tmp 8))⟩,
    ⟨(some 10), none, false, false, [], (.len (.tmp 9))⟩,
    ⟨(some 11), none, false, false, [], (.bin .lss 3 (.tmp 7) (.tmp 10) 3)⟩])
  (.cond (.tmp 11)
   .skip
   (.exit 0)))
  (.seq (.block 1
   (.seq (.region [21] [] [⟨(some 14), none, true, false, [], (.faddr 0 (.tmp 2))⟩,
     ⟨(some 15), none, false, false, [], (.load 1 false (.tmp 14))⟩,
     ⟨(some 16), none, true, false, [], (.val (.tmp 6))⟩,
     ⟨(some 17), none, true, false, [], (.isl 3 (.tmp 15) (.tmp 16))⟩,
     ⟨(some 18), none, true, false, [], (.faddr 0 (.tmp 17))⟩,
     ⟨(some 19), none, false, false, [], (.load 1 false (.tmp 18))⟩,
     ⟨(some 20), none, true, false, [], (.val (.tmp 1))⟩,
     ⟨(some 21), none, false, false, [], (.bin .eql 3 (.tmp 19) (.tmp 20) 3)⟩])
   (.cond (.tmp 21)
    (.seq (.region [5, 2, 4] [] [⟨(some 22), none, true, false, [], (.faddr 0 (.tmp 2))⟩,
      ⟨(some 23), none, false, false, [], (.load 1 false (.tmp 22))⟩,
      ⟨(some 24), none, true, false, [], (.val (.tmp 6))⟩,
      ⟨(some 25), none, true, false, [], (.isl 3 (.tmp 23) (.tmp 24))⟩,
      ⟨(some 26), none, false, false, [], (.load 3 true (.tmp 25))⟩,
      ⟨none, none, false, false, [], (.store 3 (.tmp 4) (.tmp 26))⟩,
      ⟨(some 5), none, true, false, [], (.val (.const (.bool true)))⟩])
    .ret)
    .skip)))
  (.region [6] [] [⟨(some 12), none, true, false, [], (.val (.tmp 6))⟩,
    ⟨(some 13), none, false, false, [], (.bin .add 3 (.tmp 12) (.const (.int .i64 (1))) 3)⟩,
    ⟨(some 6), none, true, false, [], (.val (.tmp 13))⟩])))
def x36B : CC :=
  (.seq (.region [2, 4, 5] [] [⟨(some 2), none, false, true, [], (.box true (.tmp 0))⟩,
    ⟨(some 4), none, false, true, [], (.alloc true [(.r (.sc (.int .i64 (0)))), (.r (.sc (.int .i64 (0)))), (.r (.sc (.int .i64 (0))))])⟩,
    ⟨(some 5), none, true, false, [], (.val (.const (.bool false)))⟩])
  (.seq (.seq (.region [6] [] [⟨(some 6), none, true, false, [], (.val (.const (.int .i64 (0))))⟩])
  (.block 0
   (.loop x36L0)))
  (.seq (.region [5, 2, 4] [] [⟨(some 27), none, false, false, [], (.build [(.r (.sc (.int .i64 (0)))), (.r (.sc (.int .i64 (0)))), (.r (.sc (.int .i64 (0))))] [])⟩,
    ⟨none, none, false, false, [], (.store 3 (.tmp 4) (.tmp 27))⟩,
    ⟨(some 5), none, true, false, [], (.val (.const (.bool false)))⟩])
  .ret)))
def x36 : XF := ⟨28, false, false, [2, 4], [.cell 4 3 true, .tmp 5], x36B⟩
theorem cx36 : compF Go.Proofs.Tryz.prog cfg 36 = some x36 := by kernel_rfl
/- 59: mapsheets/mapsheetsref14.line -/
def x59B : CC :=
  (.seq (.region [2, 3, 4, 5] [] [⟨(some 2), none, false, true, [], (.box true (.tmp 0))⟩,
    ⟨(some 3), none, false, true, [], (.box true (.tmp 1))⟩,
    ⟨(some 4), none, true, false, [], (.val (.const (.slice none 0 0)))⟩,
    ⟨(some 5), none, true, false, [], (.val (.const (.bool false)))⟩])
  (.seq (.region [6, 7, 2, 3, 8] [] [⟨(some 11), none, false, false, [], (.load 3 true (.tmp 2))⟩,
    ⟨(some 12), none, true, false, [], (.faddr 1 (.tmp 3))⟩,
    ⟨(some 13), none, false, false, [], (.load 1 false (.tmp 12))⟩,
    ⟨(some 14), none, false, false, [], (.call (.func 36) [(.tmp 11), (.tmp 13)])⟩,
    ⟨(some 10), none, true, false, [], (.val (.tmp 14))⟩,
    ⟨(some 15), none, false, false, [], (.ext (.tmp 10) 0)⟩,
    ⟨(some 16), none, false, false, [], (.ext (.tmp 10) 1)⟩,
    ⟨(some 6), none, false, true, [10, 12], (.alloc true [(.r (.sc (.int .i64 (0)))), (.r (.sc (.int .i64 (0)))), (.r (.sc (.int .i64 (0))))])⟩,
    ⟨none, none, false, false, [], (.store 3 (.tmp 6) (.tmp 15))⟩,
    ⟨(some 7), none, true, false, [], (.val (.tmp 16))⟩])
  (.seq (.region [8, 9, 2, 3, 6] [] [⟨(some 18), none, false, false, [], (.load 3 true (.tmp 2))⟩,
    ⟨(some 19), none, true, false, [], (.faddr 2 (.tmp 3))⟩,
    ⟨(some 20), none, false, false, [], (.load 1 false (.tmp 19))⟩,
    ⟨(some 21), none, false, false, [], (.call (.func 36) [(.tmp 18), (.tmp 20)])⟩,
    ⟨(some 17), none, true, false, [], (.val (.tmp 21))⟩,
    ⟨(some 22), none, false, false, [], (.ext (.tmp 17) 0)⟩,
    ⟨(some 23), none, false, false, [], (.ext (.tmp 17) 1)⟩,
    ⟨(some 8), none, false, true, [17, 19], (.alloc true [(.r (.sc (.int .i64 (0)))), (.r (.sc (.int .i64 (0)))), (.r (.sc (.int .i64 (0))))])⟩,
    ⟨none, none, false, false, [], (.store 3 (.tmp 8) (.tmp 22))⟩,
    ⟨(some 9), none, true, false, [], (.val (.tmp 23))⟩])
  (.seq (.region [4, 5] [(1, 4), (2, 4), (1, 7), (2, 7), (4, 7), (5, 7), (1, 8), (2, 8), (4, 8), (5, 8)] [⟨(some 24), none, true, false, [], (.faddr 1 (.tmp 6))⟩,
    ⟨(some 25), none, false, false, [], (.load 2 true (.tmp 24))⟩,
    ⟨(some 26), none, false, false, [], (.buildSl 1 2 [(.r (.sc (.int .i64 (0)))), (.r (.sc (.int .i64 (0))))] [(0, 2, (.tmp 25))])⟩,
    ⟨(some 27), none, true, false, [], (.faddr 3 (.tmp 3))⟩,
    ⟨(some 28), none, false, false, [], (.load 1 false (.tmp 27))⟩,
    ⟨(some 29), none, false, false, [], (.app 2 16 (.tmp 26) (.tmp 28))⟩,
    ⟨(some 30), none, true, false, [], (.faddr 1 (.tmp 8))⟩,
    ⟨(some 31), none, false, false, [], (.load 2 true (.tmp 30))⟩,
    ⟨(some 32), none, false, false, [], (.buildSl 1 2 [(.r (.sc (.int .i64 (0)))), (.r (.sc (.int .i64 (0))))] [(0, 2, (.tmp 31))])⟩,
    ⟨(some 33), none, false, false, [], (.app 2 16 (.tmp 29) (.tmp 32))⟩,
    ⟨(some 34), none, true, false, [], (.val (.tmp 7))⟩,
    ⟨(some 35), none, true, false, [], (.val (.tmp 34))⟩,
    ⟨(some 36), (some (35, true)), true, false, [], (.val (.tmp 9))⟩,
    ⟨(some 37), none, true, false, [], (.pick (.tmp 35) (.tmp 36) (.const (.bool false)))⟩,
    ⟨(some 4), none, true, false, [], (.val (.tmp 33))⟩,
    ⟨(some 5), none, true, false, [], (.val (.tmp 37))⟩])
  .ret))))
def x59 : XF := ⟨38, false, false, [2, 3, 6, 8], [.tmp 4, .tmp 5], x59B⟩
theorem cx59 : compF Go.Proofs.Tryz.prog cfg 59 = some x59 := by kernel_rfl
/- 60: mapsheets/mapsheetsref14.Face -/
def x60L0 : CC :=
  (.seq (.seq (.region [10] [] [⟨(some 6), none, true, false, [], (.val (.tmp 5))⟩,
    ⟨(some 7), none, true, false, [], (.faddr 2 (.tmp 2))⟩,
    ⟨(some 8), none, false, false, [], (.load 1 false (.tmp 7))⟩,
    ⟨(some 9), none, false, false, [], (.len (.tmp 8))⟩,
    ⟨(some 10), none, false, false, [], (.bin .lss 3 (.tmp 6) (.tmp 9) 3)⟩])
  (.cond (.tmp 10)
   .skip
   (.exit 0)))
  (.seq (.block 1
   (.seq (.region [19] [] [⟨(some 13), none, true, false, [], (.faddr 2 (.tmp 2))⟩,
     ⟨(some 14), none, false, false, [], (.load 1 false (.tmp 13))⟩,
     ⟨(some 15), none, true, false, [], (.val (.tmp 5))⟩,
     ⟨(some 16), none, true, false, [], (.isl 1 (.tmp 14) (.tmp 15))⟩,
     ⟨(some 17), none, false, false, [], (.load 1 false (.tmp 16))⟩,
     ⟨(some 18), none, true, false, [], (.val (.tmp 1))⟩,
     ⟨(some 19), none, false, false, [], (.bin .eql 3 (.tmp 17) (.tmp 18) 3)⟩])
   (.cond (.tmp 19)
    (.seq (.region [4] [] [⟨(some 4), none, true, false, [], (.val (.const (.bool true)))⟩])
    .ret)
    .skip)))
  (.region [5] [] [⟨(some 11), none, true, false, [], (.val (.tmp 5))⟩,
    ⟨(some 12), none, false, false, [], (.bin .add 3 (.tmp 11) (.const (.int .i64 (1))) 3)⟩,
    ⟨(some 5), none, true, false, [], (.val (.tmp 12))⟩])))
def x60B : CC :=
  (.seq (.region [2, 4] [] [⟨(some 2), none, false, true, [], (.box true (.tmp 0))⟩,
    ⟨(some 4), none, true, false, [], (.val (.const (.bool false)))⟩])
  (.seq (.seq (.region [5] [] [⟨(some 5), none, true, false, [], (.val (.const (.int .i64 (0))))⟩])
  (.block 0
   (.loop x60L0)))
  (.seq (.region [4] [] [⟨(some 20), none, true, false, [], (.val (.tmp 1))⟩,
    ⟨(some 21), none, false, false, [], (.bin .eql 3 (.tmp 20) (.const (.int .i64 (0))) 3)⟩,
    ⟨(some 4), none, true, false, [], (.val (.tmp 21))⟩])
  .ret)))
def x60 : XF := ⟨22, false, false, [2], [.tmp 4], x60B⟩
theorem cx60 : compF Go.Proofs.Tryz.prog cfg 60 = some x60 := by kernel_rfl
/- 88: mapsheets/mapsheetsref14.Segments -/
def x88L0 : CC :=
  (.seq (.seq (.region [29] [] [⟨(some 25), none, true, false, [], (.val (.tmp 7))⟩,
    ⟨(some 26), none, false, false, [], (.bin .add 3 (.tmp 25) (.const (.int .i64 (1))) 3)⟩,
    ⟨(some 27), none, true, false, [], (.val (.tmp 5))⟩,
    ⟨(some 28), none, false, false, [], (.len (.tmp 27))⟩,
    ⟨(some 29), none, false, false, [], (.bin .lss 3 (.tmp 26) (.tmp 28) 3)⟩])
  (.cond (.tmp 29)
   .skip
   (.exit 2)))
  (.seq (.block 3
   (.region [3] [(2, 8), (4, 8), (5, 8), (2, 12), (4, 12), (5, 12), (8, 12), (2, 13), (4, 13), (5, 13), (8, 13), (2, 17), (4, 17), (5, 17), (8, 17), (12, 17), (13, 17), (2, 18), (4, 18), (5, 18), (8, 18), (12, 18), (13, 18)] [⟨(some 32), none, true, false, [], (.val (.tmp 3))⟩,
     ⟨(some 33), none, true, false, [], (.faddr 1 (.tmp 1))⟩,
     ⟨(some 34), none, false, false, [], (.load 1 false (.tmp 33))⟩,
     ⟨(some 35), none, true, false, [], (.val (.tmp 4))⟩,
     ⟨(some 36), none, true, false, [], (.isl 6 (.tmp 34) (.tmp 35))⟩,
     ⟨(some 37), none, false, false, [], (.load 6 true (.tmp 36))⟩,
     ⟨(some 38), none, true, false, [], (.val (.tmp 7))⟩,
     ⟨(some 39), none, true, false, [], (.val (.tmp 5))⟩,
     ⟨(some 40), none, false, false, [], (.len (.tmp 39))⟩,
     ⟨(some 41), none, false, false, [], (.bin .sub 3 (.tmp 40) (.const (.int .i64 (1))) 3)⟩,
     ⟨(some 42), none, true, false, [], (.val (.tmp 5))⟩,
     ⟨(some 43), none, true, false, [], (.val (.tmp 7))⟩,
     ⟨(some 44), none, true, false, [], (.isl 2 (.tmp 42) (.tmp 43))⟩,
     ⟨(some 45), none, false, false, [], (.load 2 true (.tmp 44))⟩,
     ⟨(some 46), none, true, false, [], (.val (.tmp 5))⟩,
     ⟨(some 47), none, true, false, [], (.val (.tmp 7))⟩,
     ⟨(some 48), none, false, false, [], (.bin .add 3 (.tmp 47) (.const (.int .i64 (1))) 3)⟩,
     ⟨(some 49), none, true, false, [], (.isl 2 (.tmp 46) (.tmp 48))⟩,
     ⟨(some 50), none, false, false, [], (.load 2 true (.tmp 49))⟩,
     ⟨(some 51), none, false, false, [], (.build [(.r (.sc (.int .i64 (0)))), (.r (.sc (.int .i64 (0)))), (.r (.sc (.int .i64 (0)))), (.r (.sc (.slice none 0 0))), (.r (.sc (.int .i64 (0)))), (.r (.sc (.int .i64 (0)))), (.r (.sc (.int .i64 (0)))), (.r (.sc (.int .i64 (0)))), (.r (.sc (.int .i64 (0)))), (.r (.sc (.int .i64 (0)))), (.r (.sc (.int .i64 (0)))), (.r (.sc (.int .i64 (0))))] [(0, 6, (.tmp 37)), (6, 1, (.tmp 38)), (7, 1, (.tmp 41)), (8, 2, (.tmp 45)), (10, 2, (.tmp 50))])⟩,
     ⟨(some 52), none, false, false, [], (.buildSl 1 12 [(.r (.sc (.int .i64 (0)))), (.r (.sc (.int .i64 (0)))), (.r (.sc (.int .i64 (0)))), (.r (.sc (.slice none 0 0))), (.r (.sc (.int .i64 (0)))), (.r (.sc (.int .i64 (0)))), (.r (.sc (.int .i64 (0)))), (.r (.sc (.int .i64 (0)))), (.r (.sc (.int .i64 (0)))), (.r (.sc (.int .i64 (0)))), (.r (.sc (.int .i64 (0)))), (.r (.sc (.int .i64 (0))))] [(0, 12, (.tmp 51))])⟩,
     ⟨(some 53), none, false, false, [], (.app 12 112 (.tmp 32) (.tmp 52))⟩,
     ⟨(some 3), none, true, false, [], (.val (.tmp 53))⟩]))
  (.region [7] [] [⟨(some 30), none, true, false, [], (.val (.tmp 7))⟩,
    ⟨(some 31), none, false, false, [], (.bin .add 3 (.tmp 30) (.const (.int .i64 (1))) 3)⟩,
    ⟨(some 7), none, true, false, [], (.val (.tmp 31))⟩])))
def x88L1 : CC :=
  (.seq (.seq (.region [12] [] [⟨(some 8), none, true, false, [], (.val (.tmp 4))⟩,
    ⟨(some 9), none, true, false, [], (.faddr 1 (.tmp 1))⟩,
    ⟨(some 10), none, false, false, [], (.load 1 false (.tmp 9))⟩,
    ⟨(some 11), none, false, false, [], (.len (.tmp 10))⟩,
    ⟨(some 12), none, false, false, [], (.bin .lss 3 (.tmp 8) (.tmp 11) 3)⟩])
  (.cond (.tmp 12)
   .skip
   (.exit 0)))
  (.seq (.block 1
   (.seq (.region [5] [(0, 2), (0, 4), (0, 5)] [⟨(some 16), none, false, false, [], (.load 3 true (.tmp 1))⟩,
     ⟨(some 17), none, true, false, [], (.faddr 1 (.tmp 1))⟩,
     ⟨(some 18), none, false, false, [], (.load 1 false (.tmp 17))⟩,
     ⟨(some 19), none, true, false, [], (.val (.tmp 4))⟩,
     ⟨(some 20), none, true, false, [], (.isl 6 (.tmp 18) (.tmp 19))⟩,
     ⟨(some 21), none, false, false, [], (.load 6 true (.tmp 20))⟩,
     ⟨(some 22), none, false, false, [], (.call (.func 59) [(.tmp 16), (.tmp 21)])⟩,
     ⟨(some 15), none, true, false, [], (.val (.tmp 22))⟩,
     ⟨(some 23), none, false, false, [], (.ext (.tmp 15) 0)⟩,
     ⟨(some 24), none, false, false, [], (.ext (.tmp 15) 1)⟩,
     ⟨(some 5), none, true, false, [], (.val (.tmp 23))⟩,
     ⟨(some 6), none, true, false, [], (.val (.tmp 24))⟩])
   (.seq (.region [7] [] [⟨(some 7), none, true, false, [], (.val (.const (.int .i64 (0))))⟩])
   (.block 2
    (.loop x88L0)))))
  (.region [4] [] [⟨(some 13), none, true, false, [], (.val (.tmp 4))⟩,
    ⟨(some 14), none, false, false, [], (.bin .add 3 (.tmp 13) (.const (.int .i64 (1))) 3)⟩,
    ⟨(some 4), none, true, false, [], (.val (.tmp 14))⟩])))
def x88B : CC :=
  (.seq (.region [1, 2] [] [⟨(some 1), none, false, true, [], (.box true (.tmp 0))⟩,
    ⟨(some 2), none, true, false, [], (.val (.const (.slice none 0 0)))⟩])
  (.seq (.region [3] [] [⟨(some 3), none, true, false, [], (.val (.const (.slice none 0 0)))⟩])
  (.seq (.seq (.region [4] [] [⟨(some 4), none, true, false, [], (.val (.const (.int .i64 (0))))⟩])
  (.block 0
   (.loop x88L1)))
  (.seq (.region [2] [] [⟨(some 54), none, true, false, [], (.val (.tmp 3))⟩,
    ⟨(some 2), none, true, false, [], (.val (.tmp 54))⟩])
  .ret))))
def x88 : XF := ⟨55, false, false, [1], [.tmp 2], x88B⟩
theorem cx88 : compF Go.Proofs.Tryz.prog cfg 88 = some x88 := by kernel_rfl
/- 66: mapsheets/mapsheetsref08.Near -/
def x66L0 : CC :=
  (.seq (.seq (.region [7] [] [⟨(some 4), none, true, false, [], (.val (.tmp 3))⟩,
    ⟨(some 5), none, true, false, [], (.val (.tmp 0))⟩,
    ⟨(some 6), none, false, false, [], (.len (.tmp 5))⟩,
    ⟨(some 7), none, false, false, [], (.bin .lss 3 (.tmp 4) (.tmp 6) 3)⟩])
  (.cond (.tmp 7)
   .skip
   (.exit 0)))
  (.seq (.block 1
   (.seq (.region [39] [] [⟨(some 10), none, true, false, [], (.val (.tmp 0))⟩,
     ⟨(some 11), none, true, false, [], (.val (.tmp 3))⟩,
     ⟨(some 12), none, true, false, [], (.isl 2 (.tmp 10) (.tmp 11))⟩,
     ⟨(some 13), none, true, false, [], (.faddr 0 (.tmp 12))⟩,
     ⟨(some 14), none, false, false, [], (.load 1 false (.tmp 13))⟩,
     ⟨(some 15), none, false, false, [], (.bin .lss 3 (.tmp 14) (.const (.int .i64 (-2097152))) 3)⟩,
     ⟨(some 16), none, true, false, [], (.val (.tmp 15))⟩,
     ⟨(some 17), (some (16, false)), true, false, [], (.val (.tmp 0))⟩,
     ⟨(some 18), (some (16, false)), true, false, [], (.val (.tmp 3))⟩,
     ⟨(some 19), (some (16, false)), true, false, [], (.isl 2 (.tmp 17) (.tmp 18))⟩,
     ⟨(some 20), (some (16, false)), true, false, [], (.faddr 0 (.tmp 19))⟩,
     ⟨(some 21), (some (16, false)), false, false, [], (.load 1 false (.tmp 20))⟩,
     ⟨(some 22), (some (16, false)), false, false, [], (.bin .gtr 3 (.tmp 21) (.const (.int .i64 (2097152))) 3)⟩,
     ⟨(some 23), none, true, false, [], (.pick (.tmp 16) (.const (.bool true)) (.tmp 22))⟩,
     ⟨(some 24), none, true, false, [], (.val (.tmp 23))⟩,
     ⟨(some 25), (some (24, false)), true, false, [], (.val (.tmp 0))⟩,
     ⟨(some 26), (some (24, false)), true, false, [], (.val (.tmp 3))⟩,
     ⟨(some 27), (some (24, false)), true, false, [], (.isl 2 (.tmp 25) (.tmp 26))⟩,
     ⟨(some 28), (some (24, false)), true, false, [], (.faddr 1 (.tmp 27))⟩,
     ⟨(some 29), (some (24, false)), false, false, [], (.load 1 false (.tmp 28))⟩,
     ⟨(some 30), (some (24, false)), false, false, [], (.bin .lss 3 (.tmp 29) (.const (.int .i64 (-2097152))) 3)⟩,
     ⟨(some 31), none, true, false, [], (.pick (.tmp 24) (.const (.bool true)) (.tmp 30))⟩,
     ⟨(some 32), none, true, false, [], (.val (.tmp 31))⟩,
     ⟨(some 33), (some (32, false)), true, false, [], (.val (.tmp 0))⟩,
     ⟨(some 34), (some (32, false)), true, false, [], (.val (.tmp 3))⟩,
     ⟨(some 35), (some (32, false)), true, false, [], (.isl 2 (.tmp 33) (.tmp 34))⟩,
     ⟨(some 36), (some (32, false)), true, false, [], (.faddr 1 (.tmp 35))⟩,
     ⟨(some 37), (some (32, false)), false, false, [], (.load 1 false (.tmp 36))⟩,
     ⟨(some 38), (some (32, false)), false, false, [], (.bin .gtr 3 (.tmp 37) (.const (.int .i64 (2097152))) 3)⟩,
     ⟨(some 39), none, true, false, [], (.pick (.tmp 32) (.const (.bool true)) (.tmp 38))⟩])
   (.cond (.tmp 39)
    (.seq (.region [2] [] [⟨(some 2), none, true, false, [], (.val (.const (.bool false)))⟩])
    .ret)
    .skip)))
  (.region [3] [] [⟨(some 8), none, true, false, [], (.val (.tmp 3))⟩,
    ⟨(some 9), none, false, false, [], (.bin .add 3 (.tmp 8) (.const (.int .i64 (1))) 3)⟩,
    ⟨(some 3), none, true, false, [], (.val (.tmp 9))⟩])))
def x66B : CC :=
  (.seq (.region [2] [] [⟨(some 2), none, true, false, [], (.val (.const (.bool false)))⟩])
  (.seq (.seq (.region [3] [] [⟨(some 3), none, true, false, [], (.val (.const (.int .i64 (0))))⟩])
  (.block 0
   (.loop x66L0)))
  (.seq (.region [2] [] [⟨(some 2), none, true, false, [], (.val (.const (.bool true)))⟩])
  .ret)))
def x66 : XF := ⟨40, false, false, [], [.tmp 2], x66B⟩
theorem cx66 : compF Go.Proofs.Tryz.prog cfg 66 = some x66 := by kernel_rfl
/- 68: mapsheets/mapsheetsref08.cross -/
def x68B : CC :=
  (.seq (.region [4, 5, 6, 7, 8] [] [⟨(some 4), none, false, true, [], (.box true (.tmp 0))⟩,
    ⟨(some 5), none, false, true, [], (.box true (.tmp 1))⟩,
    ⟨(some 6), none, false, true, [], (.box true (.tmp 2))⟩,
    ⟨(some 7), none, false, true, [], (.box true (.tmp 3))⟩,
    ⟨(some 8), none, true, false, [], (.val (.const (.int .i64 (0))))⟩])
  (.seq (.region [8] [] [⟨(some 9), none, true, false, [], (.faddr 0 (.tmp 5))⟩,
    ⟨(some 10), none, false, false, [], (.load 1 false (.tmp 9))⟩,
    ⟨(some 11), none, true, false, [], (.faddr 0 (.tmp 4))⟩,
    ⟨(some 12), none, false, false, [], (.load 1 false (.tmp 11))⟩,
    ⟨(some 13), none, false, false, [], (.bin .sub 3 (.tmp 10) (.tmp 12) 3)⟩,
    ⟨(some 14), none, true, false, [], (.faddr 1 (.tmp 7))⟩,
    ⟨(some 15), none, false, false, [], (.load 1 false (.tmp 14))⟩,
    ⟨(some 16), none, true, false, [], (.faddr 1 (.tmp 6))⟩,
    ⟨(some 17), none, false, false, [], (.load 1 false (.tmp 16))⟩,
    ⟨(some 18), none, false, false, [], (.bin .sub 3 (.tmp 15) (.tmp 17) 3)⟩,
    ⟨(some 19), none, false, false, [], (.bin .mul 3 (.tmp 13) (.tmp 18) 3)⟩,
    ⟨(some 20), none, true, false, [], (.faddr 1 (.tmp 5))⟩,
    ⟨(some 21), none, false, false, [], (.load 1 false (.tmp 20))⟩,
    ⟨(some 22), none, true, false, [], (.faddr 1 (.tmp 4))⟩,
    ⟨(some 23), none, false, false, [], (.load 1 false (.tmp 22))⟩,
    ⟨(some 24), none, false, false, [], (.bin .sub 3 (.tmp 21) (.tmp 23) 3)⟩,
    ⟨(some 25), none, true, false, [], (.faddr 0 (.tmp 7))⟩,
    ⟨(some 26), none, false, false, [], (.load 1 false (.tmp 25))⟩,
    ⟨(some 27), none, true, false, [], (.faddr 0 (.tmp 6))⟩,
    ⟨(some 28), none, false, false, [], (.load 1 false (.tmp 27))⟩,
    ⟨(some 29), none, false, false, [], (.bin .sub 3 (.tmp 26) (.tmp 28) 3)⟩,
    ⟨(some 30), none, false, false, [], (.bin .mul 3 (.tmp 24) (.tmp 29) 3)⟩,
    ⟨(some 31), none, false, false, [], (.bin .sub 3 (.tmp 19) (.tmp 30) 3)⟩,
    ⟨(some 8), none, true, false, [], (.val (.tmp 31))⟩])
  .ret))
def x68 : XF := ⟨32, false, false, [4, 5, 6, 7], [.tmp 8], x68B⟩
theorem cx68 : compF Go.Proofs.Tryz.prog cfg 68 = some x68 := by kernel_rfl
/- 149: mapsheets/mapsheetsref08.dot -/
def x149B : CC :=
  (.seq (.region [4, 5, 6, 7, 8] [] [⟨(some 4), none, false, true, [], (.box true (.tmp 0))⟩,
    ⟨(some 5), none, false, true, [], (.box true (.tmp 1))⟩,
    ⟨(some 6), none, false, true, [], (.box true (.tmp 2))⟩,
    ⟨(some 7), none, false, true, [], (.box true (.tmp 3))⟩,
    ⟨(some 8), none, true, false, [], (.val (.const (.int .i64 (0))))⟩])
  (.seq (.region [8] [] [⟨(some 9), none, true, false, [], (.faddr 0 (.tmp 5))⟩,
    ⟨(some 10), none, false, false, [], (.load 1 false (.tmp 9))⟩,
    ⟨(some 11), none, true, false, [], (.faddr 0 (.tmp 4))⟩,
    ⟨(some 12), none, false, false, [], (.load 1 false (.tmp 11))⟩,
    ⟨(some 13), none, false, false, [], (.bin .sub 3 (.tmp 10) (.tmp 12) 3)⟩,
    ⟨(some 14), none, true, false, [], (.faddr 0 (.tmp 7))⟩,
    ⟨(some 15), none, false, false, [], (.load 1 false (.tmp 14))⟩,
    ⟨(some 16), none, true, false, [], (.faddr 0 (.tmp 6))⟩,
    ⟨(some 17), none, false, false, [], (.load 1 false (.tmp 16))⟩,
    ⟨(some 18), none, false, false, [], (.bin .sub 3 (.tmp 15) (.tmp 17) 3)⟩,
    ⟨(some 19), none, false, false, [], (.bin .mul 3 (.tmp 13) (.tmp 18) 3)⟩,
    ⟨(some 20), none, true, false, [], (.faddr 1 (.tmp 5))⟩,
    ⟨(some 21), none, false, false, [], (.load 1 false (.tmp 20))⟩,
    ⟨(some 22), none, true, false, [], (.faddr 1 (.tmp 4))⟩,
    ⟨(some 23), none, false, false, [], (.load 1 false (.tmp 22))⟩,
    ⟨(some 24), none, false, false, [], (.bin .sub 3 (.tmp 21) (.tmp 23) 3)⟩,
    ⟨(some 25), none, true, false, [], (.faddr 1 (.tmp 7))⟩,
    ⟨(some 26), none, false, false, [], (.load 1 false (.tmp 25))⟩,
    ⟨(some 27), none, true, false, [], (.faddr 1 (.tmp 6))⟩,
    ⟨(some 28), none, false, false, [], (.load 1 false (.tmp 27))⟩,
    ⟨(some 29), none, false, false, [], (.bin .sub 3 (.tmp 26) (.tmp 28) 3)⟩,
    ⟨(some 30), none, false, false, [], (.bin .mul 3 (.tmp 24) (.tmp 29) 3)⟩,
    ⟨(some 31), none, false, false, [], (.bin .add 3 (.tmp 19) (.tmp 30) 3)⟩,
    ⟨(some 8), none, true, false, [], (.val (.tmp 31))⟩])
  .ret))
def x149 : XF := ⟨32, false, false, [4, 5, 6, 7], [.tmp 8], x149B⟩
theorem cx149 : compF Go.Proofs.Tryz.prog cfg 149 = some x149 := by kernel_rfl
/- 127: mapsheets/mapsheetsref08.On -/
def x127B : CC :=
  (.seq (.region [3, 4, 5, 6] [] [⟨(some 3), none, false, true, [], (.box true (.tmp 0))⟩,
    ⟨(some 4), none, false, true, [], (.box true (.tmp 1))⟩,
    ⟨(some 5), none, false, true, [], (.box true (.tmp 2))⟩,
    ⟨(some 6), none, true, false, [], (.val (.const (.bool false)))⟩])
  (.seq (.region [6] [] [⟨(some 7), none, false, false, [], (.load 2 true (.tmp 3))⟩,
    ⟨(some 8), none, false, false, [], (.load 2 true (.tmp 4))⟩,
    ⟨(some 9), none, false, false, [], (.load 2 true (.tmp 5))⟩,
    ⟨(some 10), none, false, false, [], (.buildSl 3 2 [(.r (.sc (.int .i64 (0)))), (.r (.sc (.int .i64 (0)))), (.r (.sc (.int .i64 (0)))), (.r (.sc (.int .i64 (0)))), (.r (.sc (.int .i64 (0)))), (.r (.sc (.int .i64 (0))))] [(0, 2, (.tmp 7)), (2, 2, (.tmp 8)), (4, 2, (.tmp 9))])⟩,
    ⟨(some 11), none, false, false, [], (.call (.func 66) [(.tmp 10)])⟩,
    ⟨(some 12), none, true, false, [], (.val (.tmp 11))⟩,
    ⟨(some 13), (some (12, true)), false, false, [], (.load 2 true (.tmp 3))⟩,
    ⟨(some 14), (some (12, true)), false, false, [], (.load 2 true (.tmp 4))⟩,
    ⟨(some 15), (some (12, true)), false, false, [], (.load 2 true (.tmp 3))⟩,
    ⟨(some 16), (some (12, true)), false, false, [], (.load 2 true (.tmp 5))⟩,
    ⟨(some 17), (some (12, true)), false, false, [], (.call (.func 68) [(.tmp 13), (.tmp 14), (.tmp 15), (.tmp 16)])⟩,
    ⟨(some 18), (some (12, true)), false, false, [], (.bin .eql 3 (.tmp 17) (.const (.int .i64 (0))) 3)⟩,
    ⟨(some 19), none, true, false, [], (.pick (.tmp 12) (.tmp 18) (.const (.bool false)))⟩,
    ⟨(some 20), none, true, false, [], (.val (.tmp 19))⟩,
    ⟨(some 21), (some (20, true)), false, false, [], (.load 2 true (.tmp 3))⟩,
    ⟨(some 22), (some (20, true)), false, false, [], (.load 2 true (.tmp 5))⟩,
    ⟨(some 23), (some (20, true)), false, false, [], (.load 2 true (.tmp 4))⟩,
    ⟨(some 24), (some (20, true)), false, false, [], (.load 2 true (.tmp 5))⟩,
    ⟨(some 25), (some (20, true)), false, false, [], (.call (.func 149) [(.tmp 21), (.tmp 22), (.tmp 23), (.tmp 24)])⟩,
    ⟨(some 26), (some (20, true)), false, false, [], (.bin .leq 3 (.tmp 25) (.const (.int .i64 (0))) 3)⟩,
    ⟨(some 27), none, true, false, [], (.pick (.tmp 20) (.tmp 26) (.const (.bool false)))⟩,
    ⟨(some 6), none, true, false, [], (.val (.tmp 27))⟩])
  .ret))
def x127 : XF := ⟨28, false, false, [3, 4, 5], [.tmp 6], x127B⟩
theorem cx127 : compF Go.Proofs.Tryz.prog cfg 127 = some x127 := by kernel_rfl
/- 89: mapsheets/mapsheetsref14.alone -/
def x89L0 : CC :=
  (.seq (.seq (.region [12] [] [⟨(some 8), none, true, false, [], (.val (.tmp 5))⟩,
    ⟨(some 9), none, true, false, [], (.faddr 0 (.tmp 2))⟩,
    ⟨(some 10), none, false, false, [], (.load 1 false (.tmp 9))⟩,
    ⟨(some 11), none, false, false, [], (.len (.tmp 10))⟩,
    ⟨(some 12), none, false, false, [], (.bin .lss 3 (.tmp 8) (.tmp 11) 3)⟩])
  (.cond (.tmp 12)
   .skip
   (.exit 0)))
  (.seq (.block 1
   (.seq (.region [6, 2, 3] [] [⟨(some 15), none, true, false, [], (.faddr 0 (.tmp 2))⟩,
     ⟨(some 16), none, false, false, [], (.load 1 false (.tmp 15))⟩,
     ⟨(some 17), none, true, false, [], (.val (.tmp 5))⟩,
     ⟨(some 18), none, true, false, [], (.isl 3 (.tmp 16) (.tmp 17))⟩,
     ⟨(some 19), none, false, false, [], (.load 3 true (.tmp 18))⟩,
     ⟨(some 6), none, false, true, [18, 17, 15], (.alloc true [(.r (.sc (.int .i64 (0)))), (.r (.sc (.int .i64 (0)))), (.r (.sc (.int .i64 (0))))])⟩,
     ⟨none, none, false, false, [], (.store 3 (.tmp 6) (.tmp 19))⟩])
   (.seq (.region [7] [] [⟨(some 20), none, true, false, [], (.faddr 6 (.tmp 3))⟩,
     ⟨(some 21), none, false, false, [], (.load 1 false (.tmp 20))⟩,
     ⟨(some 22), none, false, false, [], (.bin .eql 3 (.tmp 21) (.const (.int .i64 (0))) 3)⟩,
     ⟨(some 23), none, true, false, [], (.val (.tmp 22))⟩,
     ⟨(some 24), (some (23, true)), true, false, [], (.faddr 0 (.tmp 3))⟩,
     ⟨(some 25), (some (23, true)), true, false, [], (.faddr 1 (.tmp 24))⟩,
     ⟨(some 26), (some (23, true)), false, false, [], (.load 1 false (.tmp 25))⟩,
     ⟨(some 27), (some (23, true)), true, false, [], (.faddr 0 (.tmp 6))⟩,
     ⟨(some 28), (some (23, true)), false, false, [], (.load 1 false (.tmp 27))⟩,
     ⟨(some 29), (some (23, true)), false, false, [], (.bin .eql 3 (.tmp 26) (.tmp 28) 3)⟩,
     ⟨(some 30), none, true, false, [], (.pick (.tmp 23) (.tmp 29) (.const (.bool false)))⟩,
     ⟨(some 31), none, true, false, [], (.val (.tmp 30))⟩,
     ⟨(some 32), (some (31, false)), true, false, [], (.faddr 6 (.tmp 3))⟩,
     ⟨(some 33), (some (31, false)), false, false, [], (.load 1 false (.tmp 32))⟩,
     ⟨(some 34), (some (31, false)), true, false, [], (.faddr 7 (.tmp 3))⟩,
     ⟨(some 35), (some (31, false)), false, false, [], (.load 1 false (.tmp 34))⟩,
     ⟨(some 36), (some (31, false)), false, false, [], (.bin .sub 3 (.tmp 35) (.const (.int .i64 (1))) 3)⟩,
     ⟨(some 37), (some (31, false)), false, false, [], (.bin .eql 3 (.tmp 33) (.tmp 36) 3)⟩,
     ⟨(some 38), (some (31, false)), true, false, [], (.val (.tmp 37))⟩,
     ⟨(some 39), (some (38, true)), true, false, [], (.faddr 0 (.tmp 3))⟩,
     ⟨(some 40), (some (38, true)), true, false, [], (.faddr 2 (.tmp 39))⟩,
     ⟨(some 41), (some (38, true)), false, false, [], (.load 1 false (.tmp 40))⟩,
     ⟨(some 42), (some (38, true)), true, false, [], (.faddr 0 (.tmp 6))⟩,
     ⟨(some 43), (some (38, true)), false, false, [], (.load 1 false (.tmp 42))⟩,
     ⟨(some 44), (some (38, true)), false, false, [], (.bin .eql 3 (.tmp 41) (.tmp 43) 3)⟩,
     ⟨(some 45), (some (31, false)), true, false, [], (.pick (.tmp 38) (.tmp 44) (.const (.bool false)))⟩,
     ⟨(some 46), none, true, false, [], (.pick (.tmp 31) (.const (.bool true)) (.tmp 45))⟩,
     ⟨(some 7), none, true, false, [], (.val (.tmp 46))⟩])
   (.seq (.region [57] [] [⟨(some 47), none, true, false, [], (.val (.tmp 7))⟩,
     ⟨(some 48), none, false, false, [], (.not (.tmp 47) 4)⟩,
     ⟨(some 49), none, true, false, [], (.val (.tmp 48))⟩,
     ⟨(some 50), (some (49, true)), true, false, [], (.faddr 8 (.tmp 3))⟩,
     ⟨(some 51), (some (49, true)), false, false, [], (.load 2 true (.tmp 50))⟩,
     ⟨(some 52), (some (49, true)), true, false, [], (.faddr 10 (.tmp 3))⟩,
     ⟨(some 53), (some (49, true)), false, false, [], (.load 2 true (.tmp 52))⟩,
     ⟨(some 54), (some (49, true)), true, false, [], (.faddr 1 (.tmp 6))⟩,
     ⟨(some 55), (some (49, true)), false, false, [], (.load 2 true (.tmp 54))⟩,
     ⟨(some 56), (some (49, true)), false, false, [], (.call (.func 127) [(.tmp 51), (.tmp 53), (.tmp 55)])⟩,
     ⟨(some 57), none, true, false, [], (.pick (.tmp 49) (.tmp 56) (.const (.bool false)))⟩])
   (.cond (.tmp 57)
    (.seq (.region [4] [] [⟨(some 4), none, true, false, [], (.val (.const (.bool false)))⟩])
    .ret)
    .skip)))))
  (.region [5] [] [⟨(some 13), none, true, false, [], (.val (.tmp 5))⟩,
    ⟨(some 14), none, false, false, [], (.bin .add 3 (.tmp 13) (.const (.int .i64 (1))) 3)⟩,
    ⟨(some 5), none, true, false, [], (.val (.tmp 14))⟩])))
def x89B : CC :=
  (.seq (.region [2, 3, 4] [] [⟨(some 2), none, false, true, [], (.box true (.tmp 0))⟩,
    ⟨(some 3), none, false, true, [], (.box true (.tmp 1))⟩,
    ⟨(some 4), none, true, false, [], (.val (.const (.bool false)))⟩])
  (.seq (.seq (.region [5] [] [⟨(some 5), none, true, false, [], (.val (.const (.int .i64 (0))))⟩])
  (.block 0
   (.loop x89L0)))
  (.seq (.region [4] [] [⟨(some 58), none, true, false, [], (.faddr 8 (.tmp 3))⟩,
    ⟨(some 59), none, false, false, [], (.load 2 true (.tmp 58))⟩,
    ⟨(some 60), none, true, false, [], (.faddr 10 (.tmp 3))⟩,
    ⟨(some 61), none, false, false, [], (.load 2 true (.tmp 60))⟩,
    ⟨(some 62), none, false, false, [], (.bin .neq 44 (.tmp 59) (.tmp 61) 44)⟩,
    ⟨(some 63), none, true, false, [], (.val (.tmp 62))⟩,
    ⟨(some 64), (some (63, true)), true, false, [], (.faddr 0 (.tmp 3))⟩,
    ⟨(some 65), (some (63, true)), true, false, [], (.faddr 1 (.tmp 64))⟩,
    ⟨(some 66), (some (63, true)), false, false, [], (.load 1 false (.tmp 65))⟩,
    ⟨(some 67), (some (63, true)), true, false, [], (.faddr 0 (.tmp 3))⟩,
    ⟨(some 68), (some (63, true)), true, false, [], (.faddr 2 (.tmp 67))⟩,
    ⟨(some 69), (some (63, true)), false, false, [], (.load 1 false (.tmp 68))⟩,
    ⟨(some 70), (some (63, true)), false, false, [], (.bin .neq 3 (.tmp 66) (.tmp 69) 3)⟩,
    ⟨(some 71), (some (63, true)), true, false, [], (.val (.tmp 70))⟩,
    ⟨(some 72), (some (71, false)), true, false, [], (.faddr 7 (.tmp 3))⟩,
    ⟨(some 73), (some (71, false)), false, false, [], (.load 1 false (.tmp 72))⟩,
    ⟨(some 74), (some (71, false)), false, false, [], (.bin .geq 3 (.tmp 73) (.const (.int .i64 (3))) 3)⟩,
    ⟨(some 75), (some (63, true)), true, false, [], (.pick (.tmp 71) (.const (.bool true)) (.tmp 74))⟩,
    ⟨(some 76), none, true, false, [], (.pick (.tmp 63) (.tmp 75) (.const (.bool false)))⟩,
    ⟨(some 4), none, true, false, [], (.val (.tmp 76))⟩])
  .ret)))
def x89 : XF := ⟨77, false, false, [2, 3, 6], [.tmp 4], x89B⟩
theorem cx89 : compF Go.Proofs.Tryz.prog cfg 89 = some x89 := by kernel_rfl
/- 165: mapsheets/mapsheetsref08.first -/
def x165B : CC :=
  (.seq (.region [2, 3, 4] [] [⟨(some 2), none, false, true, [], (.box true (.tmp 0))⟩,
    ⟨(some 3), none, false, true, [], (.box true (.tmp 1))⟩,
    ⟨(some 4), none, true, false, [], (.val (.const (.bool false)))⟩])
  (.seq (.region [4] [] [⟨(some 5), none, true, false, [], (.faddr 0 (.tmp 2))⟩,
    ⟨(some 6), none, false, false, [], (.load 1 false (.tmp 5))⟩,
    ⟨(some 7), none, true, false, [], (.faddr 0 (.tmp 3))⟩,
    ⟨(some 8), none, false, false, [], (.load 1 false (.tmp 7))⟩,
    ⟨(some 9), none, false, false, [], (.bin .lss 3 (.tmp 6) (.tmp 8) 3)⟩,
    ⟨(some 10), none, true, false, [], (.val (.tmp 9))⟩,
    ⟨(some 11), (some (10, false)), true, false, [], (.faddr 0 (.tmp 2))⟩,
    ⟨(some 12), (some (10, false)), false, false, [], (.load 1 false (.tmp 11))⟩,
    ⟨(some 13), (some (10, false)), true, false, [], (.faddr 0 (.tmp 3))⟩,
    ⟨(some 14), (some (10, false)), false, false, [], (.load 1 false (.tmp 13))⟩,
    ⟨(some 15), (some (10, false)), false, false, [], (.bin .eql 3 (.tmp 12) (.tmp 14) 3)⟩,
    ⟨(some 16), (some (10, false)), true, false, [], (.val (.tmp 15))⟩,
    ⟨(some 17), (some (16, true)), true, false, [], (.faddr 1 (.tmp 2))⟩,
    ⟨(some 18), (some (16, true)), false, false, [], (.load 1 false (.tmp 17))⟩,
    ⟨(some 19), (some (16, true)), true, false, [], (.faddr 1 (.tmp 3))⟩,
    ⟨(some 20), (some (16, true)), false, false, [], (.load 1 false (.tmp 19))⟩,
    ⟨(some 21), (some (16, true)), false, false, [], (.bin .lss 3 (.tmp 18) (.tmp 20) 3)⟩,
    ⟨(some 22), (some (10, false)), true, false, [], (.pick (.tmp 16) (.tmp 21) (.const (.bool false)))⟩,
    ⟨(some 23), none, true, false, [], (.pick (.tmp 10) (.const (.bool true)) (.tmp 22))⟩,
    ⟨(some 4), none, true, false, [], (.val (.tmp 23))⟩])
  .ret))
def x165 : XF := ⟨24, false, false, [2, 3], [.tmp 4], x165B⟩
theorem cx165 : compF Go.Proofs.Tryz.prog cfg 165 = some x165 := by kernel_rfl
/- 150: mapsheets/mapsheetsref08.shared -/
def x150B : CC :=
  (.seq (.region [4, 5, 6, 7, 8] [] [⟨(some 4), none, false, true, [], (.box true (.tmp 0))⟩,
    ⟨(some 5), none, false, true, [], (.box true (.tmp 1))⟩,
    ⟨(some 6), none, false, true, [], (.box true (.tmp 2))⟩,
    ⟨(some 7), none, false, true, [], (.box true (.tmp 3))⟩,
    ⟨(some 8), none, true, false, [], (.val (.const (.int .i64 (0))))⟩])
  (.seq (.seq (.region [11] [] [⟨(some 9), none, false, false, [], (.load 2 true (.tmp 5))⟩,
    ⟨(some 10), none, false, false, [], (.load 2 true (.tmp 4))⟩,
    ⟨(some 11), none, false, false, [], (.call (.func 165) [(.tmp 9), (.tmp 10)])⟩])
  (.cond (.tmp 11)
   (.region [4, 5, 6, 7] [] [⟨(some 12), none, false, false, [], (.load 2 true (.tmp 5))⟩,
     ⟨(some 13), none, false, false, [], (.load 2 true (.tmp 4))⟩,
     ⟨none, none, false, false, [], (.store 2 (.tmp 4) (.tmp 12))⟩,
     ⟨none, none, false, false, [], (.store 2 (.tmp 5) (.tmp 13))⟩])
   .skip))
  (.seq (.seq (.region [16] [] [⟨(some 14), none, false, false, [], (.load 2 true (.tmp 7))⟩,
    ⟨(some 15), none, false, false, [], (.load 2 true (.tmp 6))⟩,
    ⟨(some 16), none, false, false, [], (.call (.func 165) [(.tmp 14), (.tmp 15)])⟩])
  (.cond (.tmp 16)
   (.region [4, 5, 6, 7] [] [⟨(some 17), none, false, false, [], (.load 2 true (.tmp 7))⟩,
     ⟨(some 18), none, false, false, [], (.load 2 true (.tmp 6))⟩,
     ⟨none, none, false, false, [], (.store 2 (.tmp 6) (.tmp 17))⟩,
     ⟨none, none, false, false, [], (.store 2 (.tmp 7) (.tmp 18))⟩])
   .skip))
  (.seq (.seq (.region [21] [] [⟨(some 19), none, false, false, [], (.load 2 true (.tmp 4))⟩,
    ⟨(some 20), none, false, false, [], (.load 2 true (.tmp 6))⟩,
    ⟨(some 21), none, false, false, [], (.call (.func 165) [(.tmp 19), (.tmp 20)])⟩])
  (.cond (.tmp 21)
   (.region [4, 5, 6, 7] [] [⟨(some 22), none, false, false, [], (.load 2 true (.tmp 6))⟩,
     ⟨none, none, false, false, [], (.store 2 (.tmp 4) (.tmp 22))⟩])
   .skip))
  (.seq (.seq (.region [25] [] [⟨(some 23), none, false, false, [], (.load 2 true (.tmp 7))⟩,
    ⟨(some 24), none, false, false, [], (.load 2 true (.tmp 5))⟩,
    ⟨(some 25), none, false, false, [], (.call (.func 165) [(.tmp 23), (.tmp 24)])⟩])
  (.cond (.tmp 25)
   (.region [4, 5, 6, 7] [] [⟨(some 26), none, false, false, [], (.load 2 true (.tmp 7))⟩,
     ⟨none, none, false, false, [], (.store 2 (.tmp 5) (.tmp 26))⟩])
   .skip))
  (.seq (.seq (.region [29] [] [⟨(some 27), none, false, false, [], (.load 2 true (.tmp 4))⟩,
    ⟨(some 28), none, false, false, [], (.load 2 true (.tmp 5))⟩,
    ⟨(some 29), none, false, false, [], (.bin .eql 44 (.tmp 27) (.tmp 28) 44)⟩])
  (.cond (.tmp 29)
   (.seq (.region [8] [] [⟨(some 8), none, true, false, [], (.val (.const (.int .i64 (1))))⟩])
   .ret)
   .skip))
  (.seq (.seq (.region [32] [] [⟨(some 30), none, false, false, [], (.load 2 true (.tmp 4))⟩,
    ⟨(some 31), none, false, false, [], (.load 2 true (.tmp 5))⟩,
    ⟨(some 32), none, false, false, [], (.call (.func 165) [(.tmp 30), (.tmp 31)])⟩])
  (.cond (.tmp 32)
   (.seq (.region [8] [] [⟨(some 8), none, true, false, [], (.val (.const (.int .i64 (2))))⟩])
   .ret)
   .skip))
  (.seq (.region [8] [] [⟨(some 8), none, true, false, [], (.val (.const (.int .i64 (0))))⟩])
  .ret))))))))
def x150 : XF := ⟨33, false, false, [4, 5, 6, 7], [.tmp 8], x150B⟩
theorem cx150 : compF Go.Proofs.Tryz.prog cfg 150 = some x150 := by kernel_rfl
/- 128: mapsheets/mapsheetsref08.Meet -/
def x128B : CC :=
  (.seq (.region [4, 5, 6, 7, 8] [] [⟨(some 4), none, false, true, [], (.box true (.tmp 0))⟩,
    ⟨(some 5), none, false, true, [], (.box true (.tmp 1))⟩,
    ⟨(some 6), none, false, true, [], (.box true (.tmp 2))⟩,
    ⟨(some 7), none, false, true, [], (.box true (.tmp 3))⟩,
    ⟨(some 8), none, true, false, [], (.val (.const (.int .i64 (0))))⟩])
  (.seq (.seq (.region [18] [] [⟨(some 12), none, false, false, [], (.load 2 true (.tmp 4))⟩,
    ⟨(some 13), none, false, false, [], (.load 2 true (.tmp 5))⟩,
    ⟨(some 14), none, false, false, [], (.load 2 true (.tmp 6))⟩,
    ⟨(some 15), none, false, false, [], (.load 2 true (.tmp 7))⟩,
    ⟨(some 16), none, false, false, [], (.buildSl 4 2 [(.r (.sc (.int .i64 (0)))), (.r (.sc (.int .i64 (0)))), (.r (.sc (.int .i64 (0)))), (.r (.sc (.int .i64 (0)))), (.r (.sc (.int .i64 (0)))), (.r (.sc (.int .i64 (0)))), (.r (.sc (.int .i64 (0)))), (.r (.sc (.int .i64 (0))))] [(0, 2, (.tmp 12)), (2, 2, (.tmp 13)), (4, 2, (.tmp 14)), (6, 2, (.tmp 15))])⟩,
    ⟨(some 17), none, false, false, [], (.call (.func 66) [(.tmp 16)])⟩,
    ⟨(some 18), none, false, false, [], (.not (.tmp 17) 4)⟩])
  (.cond (.tmp 18)
   (.seq (.region [8] [] [⟨(some 8), none, true, false, [], (.val (.const (.int .i64 (0))))⟩])
   .ret)
   .skip))
  (.seq (.seq (.region [31] [] [⟨(some 19), none, false, false, [], (.load 2 true (.tmp 4))⟩,
    ⟨(some 20), none, false, false, [], (.load 2 true (.tmp 5))⟩,
    ⟨(some 21), none, false, false, [], (.bin .eql 44 (.tmp 19) (.tmp 20) 44)⟩,
    ⟨(some 22), none, true, false, [], (.val (.tmp 21))⟩,
    ⟨(some 23), (some (22, true)), false, false, [], (.load 2 true (.tmp 6))⟩,
    ⟨(some 24), (some (22, true)), false, false, [], (.load 2 true (.tmp 7))⟩,
    ⟨(some 25), (some (22, true)), false, false, [], (.bin .eql 44 (.tmp 23) (.tmp 24) 44)⟩,
    ⟨(some 26), none, true, false, [], (.pick (.tmp 22) (.tmp 25) (.const (.bool false)))⟩,
    ⟨(some 27), none, true, false, [], (.val (.tmp 26))⟩,
    ⟨(some 28), (some (27, true)), false, false, [], (.load 2 true (.tmp 4))⟩,
    ⟨(some 29), (some (27, true)), false, false, [], (.load 2 true (.tmp 6))⟩,
    ⟨(some 30), (some (27, true)), false, false, [], (.bin .neq 44 (.tmp 28) (.tmp 29) 44)⟩,
    ⟨(some 31), none, true, false, [], (.pick (.tmp 27) (.tmp 30) (.const (.bool false)))⟩])
  (.cond (.tmp 31)
   (.seq (.region [8] [] [⟨(some 8), none, true, false, [], (.val (.const (.int .i64 (0))))⟩])
   .ret)
   .skip))
  (.seq (.region [9] [] [⟨(some 32), none, false, false, [], (.load 2 true (.tmp 4))⟩,
    ⟨(some 33), none, false, false, [], (.load 2 true (.tmp 5))⟩,
    ⟨(some 34), none, false, false, [], (.load 2 true (.tmp 6))⟩,
    ⟨(some 35), none, false, false, [], (.load 2 true (.tmp 7))⟩,
    ⟨(some 36), none, false, false, [], (.call (.func 68) [(.tmp 32), (.tmp 33), (.tmp 34), (.tmp 35)])⟩,
    ⟨(some 9), none, true, false, [], (.val (.tmp 36))⟩])
  (.seq (.seq (.region [38] [] [⟨(some 37), none, true, false, [], (.val (.tmp 9))⟩,
    ⟨(some 38), none, false, false, [], (.bin .eql 3 (.tmp 37) (.const (.int .i64 (0))) 3)⟩])
  (.cond (.tmp 38)
   (.seq (.seq (.region [68] [] [⟨(some 39), none, false, false, [], (.load 2 true (.tmp 4))⟩,
     ⟨(some 40), none, false, false, [], (.load 2 true (.tmp 5))⟩,
     ⟨(some 41), none, false, false, [], (.load 2 true (.tmp 4))⟩,
     ⟨(some 42), none, false, false, [], (.load 2 true (.tmp 6))⟩,
     ⟨(some 43), none, false, false, [], (.call (.func 68) [(.tmp 39), (.tmp 40), (.tmp 41), (.tmp 42)])⟩,
     ⟨(some 44), none, false, false, [], (.bin .neq 3 (.tmp 43) (.const (.int .i64 (0))) 3)⟩,
     ⟨(some 45), none, true, false, [], (.val (.tmp 44))⟩,
     ⟨(some 46), (some (45, false)), false, false, [], (.load 2 true (.tmp 4))⟩,
     ⟨(some 47), (some (45, false)), false, false, [], (.load 2 true (.tmp 5))⟩,
     ⟨(some 48), (some (45, false)), false, false, [], (.load 2 true (.tmp 4))⟩,
     ⟨(some 49), (some (45, false)), false, false, [], (.load 2 true (.tmp 7))⟩,
     ⟨(some 50), (some (45, false)), false, false, [], (.call (.func 68) [(.tmp 46), (.tmp 47), (.tmp 48), (.tmp 49)])⟩,
     ⟨(some 51), (some (45, false)), false, false, [], (.bin .neq 3 (.tmp 50) (.const (.int .i64 (0))) 3)⟩,
     ⟨(some 52), none, true, false, [], (.pick (.tmp 45) (.const (.bool true)) (.tmp 51))⟩,
     ⟨(some 53), none, true, false, [], (.val (.tmp 52))⟩,
     ⟨(some 54), (some (53, false)), false, false, [], (.load 2 true (.tmp 6))⟩,
     ⟨(some 55), (some (53, false)), false, false, [], (.load 2 true (.tmp 7))⟩,
     ⟨(some 56), (some (53, false)), false, false, [], (.load 2 true (.tmp 6))⟩,
     ⟨(some 57), (some (53, false)), false, false, [], (.load 2 true (.tmp 4))⟩,
     ⟨(some 58), (some (53, false)), false, false, [], (.call (.func 68) [(.tmp 54), (.tmp 55), (.tmp 56), (.tmp 57)])⟩,
     ⟨(some 59), (some (53, false)), false, false, [], (.bin .neq 3 (.tmp 58) (.const (.int .i64 (0))) 3)⟩,
     ⟨(some 60), none, true, false, [], (.pick (.tmp 53) (.const (.bool true)) (.tmp 59))⟩,
     ⟨(some 61), none, true, false, [], (.val (.tmp 60))⟩,
     ⟨(some 62), (some (61, false)), false, false, [], (.load 2 true (.tmp 6))⟩,
     ⟨(some 63), (some (61, false)), false, false, [], (.load 2 true (.tmp 7))⟩,
     ⟨(some 64), (some (61, false)), false, false, [], (.load 2 true (.tmp 6))⟩,
     ⟨(some 65), (some (61, false)), false, false, [], (.load 2 true (.tmp 5))⟩,
     ⟨(some 66), (some (61, false)), false, false, [], (.call (.func 68) [(.tmp 62), (.tmp 63), (.tmp 64), (.tmp 65)])⟩,
     ⟨(some 67), (some (61, false)), false, false, [], (.bin .neq 3 (.tmp 66) (.const (.int .i64 (0))) 3)⟩,
     ⟨(some 68), none, true, false, [], (.pick (.tmp 61) (.const (.bool true)) (.tmp 67))⟩])
   (.cond (.tmp 68)
    (.seq (.region [8] [] [⟨(some 8), none, true, false, [], (.val (.const (.int .i64 (0))))⟩])
    .ret)
    .skip))
   (.seq (.region [8] [] [⟨(some 69), none, false, false, [], (.load 2 true (.tmp 4))⟩,
     ⟨(some 70), none, false, false, [], (.load 2 true (.tmp 5))⟩,
     ⟨(some 71), none, false, false, [], (.load 2 true (.tmp 6))⟩,
     ⟨(some 72), none, false, false, [], (.load 2 true (.tmp 7))⟩,
     ⟨(some 73), none, false, false, [], (.call (.func 150) [(.tmp 69), (.tmp 70), (.tmp 71), (.tmp 72)])⟩,
     ⟨(some 8), none, true, false, [], (.val (.tmp 73))⟩])
   .ret))
   .skip))
  (.seq (.region [10, 11] [(0, 1), (0, 2), (1, 2), (0, 3), (1, 3), (2, 3), (0, 5), (1, 5), (2, 5), (3, 5), (4, 5), (0, 6), (1, 6), (2, 6), (3, 6), (4, 6), (5, 6), (0, 7), (1, 7), (2, 7), (3, 7), (4, 7), (5, 7), (6, 7), (0, 8), (1, 8), (2, 8), (3, 8), (4, 8), (5, 8), (6, 8), (7, 8)] [⟨(some 74), none, false, false, [], (.load 2 true (.tmp 4))⟩,
    ⟨(some 75), none, false, false, [], (.load 2 true (.tmp 6))⟩,
    ⟨(some 76), none, false, false, [], (.load 2 true (.tmp 6))⟩,
    ⟨(some 77), none, false, false, [], (.load 2 true (.tmp 7))⟩,
    ⟨(some 78), none, false, false, [], (.call (.func 68) [(.tmp 74), (.tmp 75), (.tmp 76), (.tmp 77)])⟩,
    ⟨(some 79), none, false, false, [], (.load 2 true (.tmp 4))⟩,
    ⟨(some 80), none, false, false, [], (.load 2 true (.tmp 6))⟩,
    ⟨(some 81), none, false, false, [], (.load 2 true (.tmp 4))⟩,
    ⟨(some 82), none, false, false, [], (.load 2 true (.tmp 5))⟩,
    ⟨(some 83), none, false, false, [], (.call (.func 68) [(.tmp 79), (.tmp 80), (.tmp 81), (.tmp 82)])⟩,
    ⟨(some 10), none, true, false, [], (.val (.tmp 78))⟩,
    ⟨(some 11), none, true, false, [], (.val (.tmp 83))⟩])
  (.seq (.seq (.region [85] [] [⟨(some 84), none, true, false, [], (.val (.tmp 9))⟩,
    ⟨(some 85), none, false, false, [], (.bin .lss 3 (.tmp 84) (.const (.int .i64 (0))) 3)⟩])
  (.cond (.tmp 85)
   (.region [9, 10, 11] [] [⟨(some 86), none, true, false, [], (.val (.tmp 9))⟩,
     ⟨(some 87), none, false, false, [], (.cl (.unOp .neg 3 (.tmp 86)))⟩,
     ⟨(some 88), none, true, false, [], (.val (.tmp 10))⟩,
     ⟨(some 89), none, false, false, [], (.cl (.unOp .neg 3 (.tmp 88)))⟩,
     ⟨(some 90), none, true, false, [], (.val (.tmp 11))⟩,
     ⟨(some 91), none, false, false, [], (.cl (.unOp .neg 3 (.tmp 90)))⟩,
     ⟨(some 9), none, true, false, [], (.val (.tmp 87))⟩,
     ⟨(some 10), none, true, false, [], (.val (.tmp 89))⟩,
     ⟨(some 11), none, true, false, [], (.val (.tmp 91))⟩])
   .skip))
  (.seq (.seq (.region [107] [] [⟨(some 92), none, true, false, [], (.val (.tmp 10))⟩,
    ⟨(some 93), none, false, false, [], (.bin .geq 3 (.tmp 92) (.const (.int .i64 (0))) 3)⟩,
    ⟨(some 94), none, true, false, [], (.val (.tmp 93))⟩,
    ⟨(some 95), (some (94, true)), true, false, [], (.val (.tmp 10))⟩,
    ⟨(some 96), (some (94, true)), true, false, [], (.val (.tmp 9))⟩,
    ⟨(some 97), (some (94, true)), false, false, [], (.bin .leq 3 (.tmp 95) (.tmp 96) 3)⟩,
    ⟨(some 98), none, true, false, [], (.pick (.tmp 94) (.tmp 97) (.const (.bool false)))⟩,
    ⟨(some 99), none, true, false, [], (.val (.tmp 98))⟩,
    ⟨(some 100), (some (99, true)), true, false, [], (.val (.tmp 11))⟩,
    ⟨(some 101), (some (99, true)), false, false, [], (.bin .geq 3 (.tmp 100) (.const (.int .i64 (0))) 3)⟩,
    ⟨(some 102), none, true, false, [], (.pick (.tmp 99) (.tmp 101) (.const (.bool false)))⟩,
    ⟨(some 103), none, true, false, [], (.val (.tmp 102))⟩,
    ⟨(some 104), (some (103, true)), true, false, [], (.val (.tmp 11))⟩,
    ⟨(some 105), (some (103, true)), true, false, [], (.val (.tmp 9))⟩,
    ⟨(some 106), (some (103, true)), false, false, [], (.bin .leq 3 (.tmp 104) (.tmp 105) 3)⟩,
    ⟨(some 107), none, true, false, [], (.pick (.tmp 103) (.tmp 106) (.const (.bool false)))⟩])
  (.cond (.tmp 107)
   (.seq (.region [8] [] [⟨(some 8), none, true, false, [], (.val (.const (.int .i64 (1))))⟩])
   .ret)
   .skip))
  (.seq (.region [8] [] [⟨(some 8), none, true, false, [], (.val (.const (.int .i64 (0))))⟩])
  .ret)))))))))
def x128 : XF := ⟨108, false, false, [4, 5, 6, 7], [.tmp 8], x128B⟩
theorem cx128 : compF Go.Proofs.Tryz.prog cfg 128 = some x128 := by kernel_rfl
/- 90: mapsheets/mapsheetsref14.apart -/
def x90B : CC :=
  (.seq (.region [2, 3, 4] [] [⟨(some 2), none, false, true, [], (.box true (.tmp 0))⟩,
    ⟨(some 3), none, false, true, [], (.box true (.tmp 1))⟩,
    ⟨(some 4), none, true, false, [], (.val (.const (.bool false)))⟩])
  (.seq (.region [5] [] [⟨(some 6), none, true, false, [], (.faddr 8 (.tmp 2))⟩,
    ⟨(some 7), none, false, false, [], (.load 2 true (.tmp 6))⟩,
    ⟨(some 8), none, true, false, [], (.faddr 10 (.tmp 2))⟩,
    ⟨(some 9), none, false, false, [], (.load 2 true (.tmp 8))⟩,
    ⟨(some 10), none, true, false, [], (.faddr 8 (.tmp 3))⟩,
    ⟨(some 11), none, false, false, [], (.load 2 true (.tmp 10))⟩,
    ⟨(some 12), none, true, false, [], (.faddr 10 (.tmp 3))⟩,
    ⟨(some 13), none, false, false, [], (.load 2 true (.tmp 12))⟩,
    ⟨(some 14), none, false, false, [], (.call (.func 128) [(.tmp 7), (.tmp 9), (.tmp 11), (.tmp 13)])⟩,
    ⟨(some 5), none, true, false, [], (.val (.tmp 14))⟩])
  (.seq (.seq (.region [20] [] [⟨(some 15), none, true, false, [], (.faddr 6 (.tmp 3))⟩,
    ⟨(some 16), none, false, false, [], (.load 1 false (.tmp 15))⟩,
    ⟨(some 17), none, true, false, [], (.faddr 6 (.tmp 2))⟩,
    ⟨(some 18), none, false, false, [], (.load 1 false (.tmp 17))⟩,
    ⟨(some 19), none, false, false, [], (.bin .add 3 (.tmp 18) (.const (.int .i64 (1))) 3)⟩,
    ⟨(some 20), none, false, false, [], (.bin .eql 3 (.tmp 16) (.tmp 19) 3)⟩])
  (.cond (.tmp 20)
   (.seq (.region [4] [] [⟨(some 21), none, true, false, [], (.val (.tmp 5))⟩,
     ⟨(some 22), none, false, false, [], (.bin .eql 3 (.tmp 21) (.const (.int .i64 (1))) 3)⟩,
     ⟨(some 4), none, true, false, [], (.val (.tmp 22))⟩])
   .ret)
   .skip))
  (.seq (.seq (.region [42] [] [⟨(some 23), none, true, false, [], (.faddr 6 (.tmp 2))⟩,
    ⟨(some 24), none, false, false, [], (.load 1 false (.tmp 23))⟩,
    ⟨(some 25), none, false, false, [], (.bin .eql 3 (.tmp 24) (.const (.int .i64 (0))) 3)⟩,
    ⟨(some 26), none, true, false, [], (.val (.tmp 25))⟩,
    ⟨(some 27), (some (26, true)), true, false, [], (.faddr 6 (.tmp 3))⟩,
    ⟨(some 28), (some (26, true)), false, false, [], (.load 1 false (.tmp 27))⟩,
    ⟨(some 29), (some (26, true)), true, false, [], (.faddr 7 (.tmp 3))⟩,
    ⟨(some 30), (some (26, true)), false, false, [], (.load 1 false (.tmp 29))⟩,
    ⟨(some 31), (some (26, true)), false, false, [], (.bin .sub 3 (.tmp 30) (.const (.int .i64 (1))) 3)⟩,
    ⟨(some 32), (some (26, true)), false, false, [], (.bin .eql 3 (.tmp 28) (.tmp 31) 3)⟩,
    ⟨(some 33), none, true, false, [], (.pick (.tmp 26) (.tmp 32) (.const (.bool false)))⟩,
    ⟨(some 34), none, true, false, [], (.val (.tmp 33))⟩,
    ⟨(some 35), (some (34, true)), true, false, [], (.faddr 0 (.tmp 2))⟩,
    ⟨(some 36), (some (34, true)), true, false, [], (.faddr 1 (.tmp 35))⟩,
    ⟨(some 37), (some (34, true)), false, false, [], (.load 1 false (.tmp 36))⟩,
    ⟨(some 38), (some (34, true)), true, false, [], (.faddr 0 (.tmp 2))⟩,
    ⟨(some 39), (some (34, true)), true, false, [], (.faddr 2 (.tmp 38))⟩,
    ⟨(some 40), (some (34, true)), false, false, [], (.load 1 false (.tmp 39))⟩,
    ⟨(some 41), (some (34, true)), false, false, [], (.bin .eql 3 (.tmp 37) (.tmp 40) 3)⟩,
    ⟨(some 42), none, true, false, [], (.pick (.tmp 34) (.tmp 41) (.const (.bool false)))⟩])
  (.cond (.tmp 42)
   (.seq (.region [4] [] [⟨(some 43), none, true, false, [], (.val (.tmp 5))⟩,
     ⟨(some 44), none, false, false, [], (.bin .eql 3 (.tmp 43) (.const (.int .i64 (1))) 3)⟩,
     ⟨(some 4), none, true, false, [], (.val (.tmp 44))⟩])
   .ret)
   .skip))
  (.seq (.region [4] [] [⟨(some 45), none, true, false, [], (.val (.tmp 5))⟩,
    ⟨(some 46), none, false, false, [], (.bin .eql 3 (.tmp 45) (.const (.int .i64 (0))) 3)⟩,
    ⟨(some 4), none, true, false, [], (.val (.tmp 46))⟩])
  .ret)))))
def x90 : XF := ⟨47, false, false, [2, 3], [.tmp 4], x90B⟩
theorem cx90 : compF Go.Proofs.Tryz.prog cfg 90 = some x90 := by kernel_rfl
/- 129: mapsheets/mapsheetsref14.ends -/
def x129B : CC :=
  (.seq (.region [2, 4] [] [⟨(some 2), none, false, true, [], (.box true (.tmp 0))⟩,
    ⟨(some 4), none, true, false, [], (.val (.const (.bool false)))⟩])
  (.seq (.region [4] [] [⟨(some 5), none, true, false, [], (.faddr 1 (.tmp 2))⟩,
    ⟨(some 6), none, false, false, [], (.load 1 false (.tmp 5))⟩,
    ⟨(some 7), none, true, false, [], (.val (.tmp 1))⟩,
    ⟨(some 8), none, false, false, [], (.bin .eql 3 (.tmp 6) (.tmp 7) 3)⟩,
    ⟨(some 9), none, true, false, [], (.val (.tmp 8))⟩,
    ⟨(some 10), (some (9, false)), true, false, [], (.faddr 2 (.tmp 2))⟩,
    ⟨(some 11), (some (9, false)), false, false, [], (.load 1 false (.tmp 10))⟩,
    ⟨(some 12), (some (9, false)), true, false, [], (.val (.tmp 1))⟩,
    ⟨(some 13), (some (9, false)), false, false, [], (.bin .eql 3 (.tmp 11) (.tmp 12) 3)⟩,
    ⟨(some 14), none, true, false, [], (.pick (.tmp 9) (.const (.bool true)) (.tmp 13))⟩,
    ⟨(some 4), none, true, false, [], (.val (.tmp 14))⟩])
  .ret))
def x129 : XF := ⟨15, false, false, [2], [.tmp 4], x129B⟩
theorem cx129 : compF Go.Proofs.Tryz.prog cfg 129 = some x129 := by kernel_rfl
/- 91: mapsheets/mapsheetsref14.joined -/
def x91L0 : CC :=
  (.seq (.seq (.region [27] [] [⟨(some 23), none, true, false, [], (.val (.tmp 8))⟩,
    ⟨(some 24), none, true, false, [], (.faddr 0 (.tmp 3))⟩,
    ⟨(some 25), none, false, false, [], (.load 1 false (.tmp 24))⟩,
    ⟨(some 26), none, false, false, [], (.len (.tmp 25))⟩,
    ⟨(some 27), none, false, false, [], (.bin .lss 3 (.tmp 23) (.tmp 26) 3)⟩])
  (.cond (.tmp 27)
   .skip
   (.exit 0)))
  (.seq (.block 1
   (.seq (.region [9, 3, 4, 5] [] [⟨(some 30), none, true, false, [], (.faddr 0 (.tmp 3))⟩,
     ⟨(some 31), none, false, false, [], (.load 1 false (.tmp 30))⟩,
     ⟨(some 32), none, true, false, [], (.val (.tmp 8))⟩,
     ⟨(some 33), none, true, false, [], (.isl 3 (.tmp 31) (.tmp 32))⟩,
     ⟨(some 34), none, false, false, [], (.load 3 true (.tmp 33))⟩,
     ⟨(some 9), none, false, true, [33, 32, 30], (.alloc true [(.r (.sc (.int .i64 (0)))), (.r (.sc (.int .i64 (0)))), (.r (.sc (.int .i64 (0))))])⟩,
     ⟨none, none, false, false, [], (.store 3 (.tmp 9) (.tmp 34))⟩])
   (.seq (.region [64] [] [⟨(some 35), none, true, false, [], (.faddr 0 (.tmp 4))⟩,
     ⟨(some 36), none, false, false, [], (.load 6 true (.tmp 35))⟩,
     ⟨(some 37), none, true, false, [], (.faddr 0 (.tmp 9))⟩,
     ⟨(some 38), none, false, false, [], (.load 1 false (.tmp 37))⟩,
     ⟨(some 39), none, false, false, [], (.call (.func 129) [(.tmp 36), (.tmp 38)])⟩,
     ⟨(some 40), none, true, false, [], (.val (.tmp 39))⟩,
     ⟨(some 41), (some (40, true)), true, false, [], (.faddr 0 (.tmp 5))⟩,
     ⟨(some 42), (some (40, true)), false, false, [], (.load 6 true (.tmp 41))⟩,
     ⟨(some 43), (some (40, true)), true, false, [], (.faddr 0 (.tmp 9))⟩,
     ⟨(some 44), (some (40, true)), false, false, [], (.load 1 false (.tmp 43))⟩,
     ⟨(some 45), (some (40, true)), false, false, [], (.call (.func 129) [(.tmp 42), (.tmp 44)])⟩,
     ⟨(some 46), none, true, false, [], (.pick (.tmp 40) (.tmp 45) (.const (.bool false)))⟩,
     ⟨(some 47), none, true, false, [], (.val (.tmp 46))⟩,
     ⟨(some 48), (some (47, true)), true, false, [], (.faddr 8 (.tmp 4))⟩,
     ⟨(some 49), (some (47, true)), false, false, [], (.load 2 true (.tmp 48))⟩,
     ⟨(some 50), (some (47, true)), true, false, [], (.faddr 10 (.tmp 4))⟩,
     ⟨(some 51), (some (47, true)), false, false, [], (.load 2 true (.tmp 50))⟩,
     ⟨(some 52), (some (47, true)), true, false, [], (.faddr 1 (.tmp 9))⟩,
     ⟨(some 53), (some (47, true)), false, false, [], (.load 2 true (.tmp 52))⟩,
     ⟨(some 54), (some (47, true)), false, false, [], (.call (.func 127) [(.tmp 49), (.tmp 51), (.tmp 53)])⟩,
     ⟨(some 55), none, true, false, [], (.pick (.tmp 47) (.tmp 54) (.const (.bool false)))⟩,
     ⟨(some 56), none, true, false, [], (.val (.tmp 55))⟩,
     ⟨(some 57), (some (56, true)), true, false, [], (.faddr 8 (.tmp 5))⟩,
     ⟨(some 58), (some (56, true)), false, false, [], (.load 2 true (.tmp 57))⟩,
     ⟨(some 59), (some (56, true)), true, false, [], (.faddr 10 (.tmp 5))⟩,
     ⟨(some 60), (some (56, true)), false, false, [], (.load 2 true (.tmp 59))⟩,
     ⟨(some 61), (some (56, true)), true, false, [], (.faddr 1 (.tmp 9))⟩,
     ⟨(some 62), (some (56, true)), false, false, [], (.load 2 true (.tmp 61))⟩,
     ⟨(some 63), (some (56, true)), false, false, [], (.call (.func 127) [(.tmp 58), (.tmp 60), (.tmp 62)])⟩,
     ⟨(some 64), none, true, false, [], (.pick (.tmp 56) (.tmp 63) (.const (.bool false)))⟩])
   (.cond (.tmp 64)
    (.seq (.region [6] [] [⟨(some 6), none, true, false, [], (.val (.const (.bool true)))⟩])
    .ret)
    .skip))))
  (.region [8] [] [⟨(some 28), none, true, false, [], (.val (.tmp 8))⟩,
    ⟨(some 29), none, false, false, [], (.bin .add 3 (.tmp 28) (.const (.int .i64 (1))) 3)⟩,
    ⟨(some 8), none, true, false, [], (.val (.tmp 29))⟩])))
def x91B : CC :=
  (.seq (.region [3, 4, 5, 6] [] [⟨(some 3), none, false, true, [], (.box true (.tmp 0))⟩,
    ⟨(some 4), none, false, true, [], (.box true (.tmp 1))⟩,
    ⟨(some 5), none, false, true, [], (.box true (.tmp 2))⟩,
    ⟨(some 6), none, true, false, [], (.val (.const (.bool false)))⟩])
  (.seq (.region [7] [] [⟨(some 10), none, true, false, [], (.faddr 8 (.tmp 4))⟩,
    ⟨(some 11), none, false, false, [], (.load 2 true (.tmp 10))⟩,
    ⟨(some 12), none, true, false, [], (.faddr 10 (.tmp 4))⟩,
    ⟨(some 13), none, false, false, [], (.load 2 true (.tmp 12))⟩,
    ⟨(some 14), none, true, false, [], (.faddr 8 (.tmp 5))⟩,
    ⟨(some 15), none, false, false, [], (.load 2 true (.tmp 14))⟩,
    ⟨(some 16), none, true, false, [], (.faddr 10 (.tmp 5))⟩,
    ⟨(some 17), none, false, false, [], (.load 2 true (.tmp 16))⟩,
    ⟨(some 18), none, false, false, [], (.call (.func 128) [(.tmp 11), (.tmp 13), (.tmp 15), (.tmp 17)])⟩,
    ⟨(some 7), none, true, false, [], (.val (.tmp 18))⟩])
  (.seq (.seq (.region [20] [] [⟨(some 19), none, true, false, [], (.val (.tmp 7))⟩,
    ⟨(some 20), none, false, false, [], (.bin .neq 3 (.tmp 19) (.const (.int .i64 (1))) 3)⟩])
  (.cond (.tmp 20)
   (.seq (.region [6] [] [⟨(some 21), none, true, false, [], (.val (.tmp 7))⟩,
     ⟨(some 22), none, false, false, [], (.bin .eql 3 (.tmp 21) (.const (.int .i64 (0))) 3)⟩,
     ⟨(some 6), none, true, false, [], (.val (.tmp 22))⟩])
   .ret)
   .skip))
  (.seq (.seq (.region [8] [] [⟨(some 8), none, true, false, [], (.val (.const (.int .i64 (0))))⟩])
  (.block 0
   (.loop x91L0)))
  (.seq (.region [6] [] [⟨(some 6), none, true, false, [], (.val (.const (.bool false)))⟩])
  .ret)))))
def x91 : XF := ⟨65, false, false, [3, 4, 5, 9], [.tmp 6], x91B⟩
theorem cx91 : compF Go.Proofs.Tryz.prog cfg 91 = some x91 := by kernel_rfl
/- 61: mapsheets/mapsheetsref14.planar -/
def x61L0 : CC :=
  (.seq (.seq (.region [23] [] [⟨(some 21), none, true, false, [], (.val (.tmp 5))⟩,
    ⟨(some 22), none, true, false, [], (.val (.tmp 4))⟩,
    ⟨(some 23), none, false, false, [], (.bin .lss 3 (.tmp 21) (.tmp 22) 3)⟩])
  (.cond (.tmp 23)
   .skip
   (.exit 2)))
  (.seq (.block 3
   (.seq (.region [78] [(2, 8), (5, 8), (2, 11), (5, 11), (16, 20), (17, 20), (16, 21), (17, 21), (28, 34), (31, 34), (28, 37), (31, 37), (40, 43), (40, 44), (40, 47), (43, 47), (44, 47), (40, 48), (43, 48), (44, 48)] [⟨(some 26), none, true, false, [], (.val (.tmp 3))⟩,
     ⟨(some 27), none, true, false, [], (.val (.tmp 5))⟩,
     ⟨(some 28), none, true, false, [], (.isl 12 (.tmp 26) (.tmp 27))⟩,
     ⟨(some 29), none, true, false, [], (.faddr 0 (.tmp 28))⟩,
     ⟨(some 30), none, true, false, [], (.faddr 0 (.tmp 29))⟩,
     ⟨(some 31), none, false, false, [], (.load 1 false (.tmp 30))⟩,
     ⟨(some 32), none, true, false, [], (.val (.tmp 3))⟩,
     ⟨(some 33), none, true, false, [], (.val (.tmp 4))⟩,
     ⟨(some 34), none, true, false, [], (.isl 12 (.tmp 32) (.tmp 33))⟩,
     ⟨(some 35), none, true, false, [], (.faddr 0 (.tmp 34))⟩,
     ⟨(some 36), none, true, false, [], (.faddr 0 (.tmp 35))⟩,
     ⟨(some 37), none, false, false, [], (.load 1 false (.tmp 36))⟩,
     ⟨(some 38), none, false, false, [], (.bin .eql 3 (.tmp 31) (.tmp 37) 3)⟩,
     ⟨(some 39), none, true, false, [], (.val (.tmp 38))⟩,
     ⟨(some 40), (some (39, true)), true, false, [], (.val (.tmp 3))⟩,
     ⟨(some 41), (some (39, true)), true, false, [], (.val (.tmp 5))⟩,
     ⟨(some 42), (some (39, true)), true, false, [], (.isl 12 (.tmp 40) (.tmp 41))⟩,
     ⟨(some 43), (some (39, true)), false, false, [], (.load 12 true (.tmp 42))⟩,
     ⟨(some 44), (some (39, true)), true, false, [], (.val (.tmp 3))⟩,
     ⟨(some 45), (some (39, true)), true, false, [], (.val (.tmp 4))⟩,
     ⟨(some 46), (some (39, true)), true, false, [], (.isl 12 (.tmp 44) (.tmp 45))⟩,
     ⟨(some 47), (some (39, true)), false, false, [], (.load 12 true (.tmp 46))⟩,
     ⟨(some 48), (some (39, true)), false, false, [], (.call (.func 90) [(.tmp 43), (.tmp 47)])⟩,
     ⟨(some 49), (some (39, true)), false, false, [], (.not (.tmp 48) 4)⟩,
     ⟨(some 50), none, true, false, [], (.pick (.tmp 39) (.tmp 49) (.const (.bool false)))⟩,
     ⟨(some 51), none, true, false, [], (.val (.tmp 50))⟩,
     ⟨(some 52), (some (51, false)), true, false, [], (.val (.tmp 3))⟩,
     ⟨(some 53), (some (51, false)), true, false, [], (.val (.tmp 5))⟩,
     ⟨(some 54), (some (51, false)), true, false, [], (.isl 12 (.tmp 52) (.tmp 53))⟩,
     ⟨(some 55), (some (51, false)), true, false, [], (.faddr 0 (.tmp 54))⟩,
     ⟨(some 56), (some (51, false)), true, false, [], (.faddr 0 (.tmp 55))⟩,
     ⟨(some 57), (some (51, false)), false, false, [], (.load 1 false (.tmp 56))⟩,
     ⟨(some 58), (some (51, false)), true, false, [], (.val (.tmp 3))⟩,
     ⟨(some 59), (some (51, false)), true, false, [], (.val (.tmp 4))⟩,
     ⟨(some 60), (some (51, false)), true, false, [], (.isl 12 (.tmp 58) (.tmp 59))⟩,
     ⟨(some 61), (some (51, false)), true, false, [], (.faddr 0 (.tmp 60))⟩,
     ⟨(some 62), (some (51, false)), true, false, [], (.faddr 0 (.tmp 61))⟩,
     ⟨(some 63), (some (51, false)), false, false, [], (.load 1 false (.tmp 62))⟩,
     ⟨(some 64), (some (51, false)), false, false, [], (.bin .neq 3 (.tmp 57) (.tmp 63) 3)⟩,
     ⟨(some 65), (some (51, false)), true, false, [], (.val (.tmp 64))⟩,
     ⟨(some 66), (some (65, true)), false, false, [], (.load 3 true (.tmp 1))⟩,
     ⟨(some 67), (some (65, true)), true, false, [], (.val (.tmp 3))⟩,
     ⟨(some 68), (some (65, true)), true, false, [], (.val (.tmp 5))⟩,
     ⟨(some 69), (some (65, true)), true, false, [], (.isl 12 (.tmp 67) (.tmp 68))⟩,
     ⟨(some 70), (some (65, true)), false, false, [], (.load 12 true (.tmp 69))⟩,
     ⟨(some 71), (some (65, true)), true, false, [], (.val (.tmp 3))⟩,
     ⟨(some 72), (some (65, true)), true, false, [], (.val (.tmp 4))⟩,
     ⟨(some 73), (some (65, true)), true, false, [], (.isl 12 (.tmp 71) (.tmp 72))⟩,
     ⟨(some 74), (some (65, true)), false, false, [], (.load 12 true (.tmp 73))⟩,
     ⟨(some 75), (some (65, true)), false, false, [], (.call (.func 91) [(.tmp 66), (.tmp 70), (.tmp 74)])⟩,
     ⟨(some 76), (some (65, true)), false, false, [], (.not (.tmp 75) 4)⟩,
     ⟨(some 77), (some (51, false)), true, false, [], (.pick (.tmp 65) (.tmp 76) (.const (.bool false)))⟩,
     ⟨(some 78), none, true, false, [], (.pick (.tmp 51) (.const (.bool true)) (.tmp 77))⟩])
   (.cond (.tmp 78)
    (.seq (.region [2] [] [⟨(some 2), none, true, false, [], (.val (.const (.bool false)))⟩])
    .ret)
    .skip)))
  (.region [5] [] [⟨(some 24), none, true, false, [], (.val (.tmp 5))⟩,
    ⟨(some 25), none, false, false, [], (.bin .add 3 (.tmp 24) (.const (.int .i64 (1))) 3)⟩,
    ⟨(some 5), none, true, false, [], (.val (.tmp 25))⟩])))
def x61L1 : CC :=
  (.seq (.seq (.region [11] [] [⟨(some 8), none, true, false, [], (.val (.tmp 4))⟩,
    ⟨(some 9), none, true, false, [], (.val (.tmp 3))⟩,
    ⟨(some 10), none, false, false, [], (.len (.tmp 9))⟩,
    ⟨(some 11), none, false, false, [], (.bin .lss 3 (.tmp 8) (.tmp 10) 3)⟩])
  (.cond (.tmp 11)
   .skip
   (.exit 0)))
  (.seq (.block 1
   (.seq (.seq (.region [20] [(0, 3), (0, 4)] [⟨(some 14), none, false, false, [], (.load 3 true (.tmp 1))⟩,
     ⟨(some 15), none, true, false, [], (.val (.tmp 3))⟩,
     ⟨(some 16), none, true, false, [], (.val (.tmp 4))⟩,
     ⟨(some 17), none, true, false, [], (.isl 12 (.tmp 15) (.tmp 16))⟩,
     ⟨(some 18), none, false, false, [], (.load 12 true (.tmp 17))⟩,
     ⟨(some 19), none, false, false, [], (.call (.func 89) [(.tmp 14), (.tmp 18)])⟩,
     ⟨(some 20), none, false, false, [], (.not (.tmp 19) 4)⟩])
   (.cond (.tmp 20)
    (.seq (.region [2] [] [⟨(some 2), none, true, false, [], (.val (.const (.bool false)))⟩])
    .ret)
    .skip))
   (.seq (.region [5] [] [⟨(some 5), none, true, false, [], (.val (.const (.int .i64 (0))))⟩])
   (.block 2
    (.loop x61L0)))))
  (.region [4] [] [⟨(some 12), none, true, false, [], (.val (.tmp 4))⟩,
    ⟨(some 13), none, false, false, [], (.bin .add 3 (.tmp 12) (.const (.int .i64 (1))) 3)⟩,
    ⟨(some 4), none, true, false, [], (.val (.tmp 13))⟩])))
def x61B : CC :=
  (.seq (.region [1, 2] [] [⟨(some 1), none, false, true, [], (.box true (.tmp 0))⟩,
    ⟨(some 2), none, true, false, [], (.val (.const (.bool false)))⟩])
  (.seq (.region [3] [] [⟨(some 6), none, false, false, [], (.load 3 true (.tmp 1))⟩,
    ⟨(some 7), none, false, false, [], (.call (.func 88) [(.tmp 6)])⟩,
    ⟨(some 3), none, true, false, [], (.val (.tmp 7))⟩])
  (.seq (.seq (.region [4] [] [⟨(some 4), none, true, false, [], (.val (.const (.int .i64 (0))))⟩])
  (.block 0
   (.loop x61L1)))
  (.seq (.region [2] [] [⟨(some 2), none, true, false, [], (.val (.const (.bool true)))⟩])
  .ret))))
def x61 : XF := ⟨79, false, false, [1], [.tmp 2], x61B⟩
theorem cx61 : compF Go.Proofs.Tryz.prog cfg 61 = some x61 := by kernel_rfl
/- 34: mapsheets/mapsheetsref14.Check -/
def x34L0 : CC :=
  (.seq (.seq (.region [34] [] [⟨(some 30), none, true, false, [], (.val (.tmp 3))⟩,
    ⟨(some 31), none, true, false, [], (.faddr 1 (.tmp 1))⟩,
    ⟨(some 32), none, false, false, [], (.load 1 false (.tmp 31))⟩,
    ⟨(some 33), none, false, false, [], (.len (.tmp 32))⟩,
    ⟨(some 34), none, false, false, [], (.bin .lss 3 (.tmp 30) (.tmp 33) 3)⟩])
  (.cond (.tmp 34)
   .skip
   (.exit 0)))
  (.seq (.block 1
   (.seq (.region [5] [(0, 2), (0, 4), (0, 5)] [⟨(some 38), none, false, false, [], (.load 3 true (.tmp 1))⟩,
     ⟨(some 39), none, true, false, [], (.faddr 1 (.tmp 1))⟩,
     ⟨(some 40), none, false, false, [], (.load 1 false (.tmp 39))⟩,
     ⟨(some 41), none, true, false, [], (.val (.tmp 3))⟩,
     ⟨(some 42), none, true, false, [], (.isl 6 (.tmp 40) (.tmp 41))⟩,
     ⟨(some 43), none, false, false, [], (.load 6 true (.tmp 42))⟩,
     ⟨(some 44), none, false, false, [], (.call (.func 59) [(.tmp 38), (.tmp 43)])⟩,
     ⟨(some 37), none, true, false, [], (.val (.tmp 44))⟩,
     ⟨(some 45), none, false, false, [], (.ext (.tmp 37) 0)⟩,
     ⟨(some 46), none, false, false, [], (.ext (.tmp 37) 1)⟩,
     ⟨(some 4), none, true, false, [], (.val (.tmp 45))⟩,
     ⟨(some 5), none, true, false, [], (.val (.tmp 46))⟩])
   (.seq (.region [48] [] [⟨(some 47), none, true, false, [], (.val (.tmp 5))⟩,
     ⟨(some 48), none, false, false, [], (.not (.tmp 47) 4)⟩])
   (.cond (.tmp 48)
    (.seq (.region [2] [] [⟨(some 2), none, true, false, [], (.val (.const (.int .i64 (7))))⟩])
    .ret)
    .skip))))
  (.region [3] [] [⟨(some 35), none, true, false, [], (.val (.tmp 3))⟩,
    ⟨(some 36), none, false, false, [], (.bin .add 3 (.tmp 35) (.const (.int .i64 (1))) 3)⟩,
    ⟨(some 3), none, true, false, [], (.val (.tmp 36))⟩])))
def x34L1 : CC :=
  (.seq (.seq (.region [53] [] [⟨(some 49), none, true, false, [], (.val (.tmp 6))⟩,
    ⟨(some 50), none, true, false, [], (.faddr 1 (.tmp 1))⟩,
    ⟨(some 51), none, false, false, [], (.load 1 false (.tmp 50))⟩,
    ⟨(some 52), none, false, false, [], (.len (.tmp 51))⟩,
    ⟨(some 53), none, false, false, [], (.bin .lss 3 (.tmp 49) (.tmp 52) 3)⟩])
  (.cond (.tmp 53)
   .skip
   (.exit 2)))
  (.seq (.block 3
   (.seq (.region [75] [(0, 2), (0, 4), (0, 6), (10, 12), (10, 14), (10, 16)] [⟨(some 56), none, false, false, [], (.load 3 true (.tmp 1))⟩,
     ⟨(some 57), none, true, false, [], (.faddr 1 (.tmp 1))⟩,
     ⟨(some 58), none, false, false, [], (.load 1 false (.tmp 57))⟩,
     ⟨(some 59), none, true, false, [], (.val (.tmp 6))⟩,
     ⟨(some 60), none, true, false, [], (.isl 6 (.tmp 58) (.tmp 59))⟩,
     ⟨(some 61), none, true, false, [], (.faddr 4 (.tmp 60))⟩,
     ⟨(some 62), none, false, false, [], (.load 1 false (.tmp 61))⟩,
     ⟨(some 63), none, false, false, [], (.call (.func 60) [(.tmp 56), (.tmp 62)])⟩,
     ⟨(some 64), none, false, false, [], (.not (.tmp 63) 4)⟩,
     ⟨(some 65), none, true, false, [], (.val (.tmp 64))⟩,
     ⟨(some 66), (some (65, false)), false, false, [], (.load 3 true (.tmp 1))⟩,
     ⟨(some 67), (some (65, false)), true, false, [], (.faddr 1 (.tmp 1))⟩,
     ⟨(some 68), (some (65, false)), false, false, [], (.load 1 false (.tmp 67))⟩,
     ⟨(some 69), (some (65, false)), true, false, [], (.val (.tmp 6))⟩,
     ⟨(some 70), (some (65, false)), true, false, [], (.isl 6 (.tmp 68) (.tmp 69))⟩,
     ⟨(some 71), (some (65, false)), true, false, [], (.faddr 5 (.tmp 70))⟩,
     ⟨(some 72), (some (65, false)), false, false, [], (.load 1 false (.tmp 71))⟩,
     ⟨(some 73), (some (65, false)), false, false, [], (.call (.func 60) [(.tmp 66), (.tmp 72)])⟩,
     ⟨(some 74), (some (65, false)), false, false, [], (.not (.tmp 73) 4)⟩,
     ⟨(some 75), none, true, false, [], (.pick (.tmp 65) (.const (.bool true)) (.tmp 74))⟩])
   (.cond (.tmp 75)
    (.seq (.region [2] [] [⟨(some 2), none, true, false, [], (.val (.const (.int .i64 (12))))⟩])
    .ret)
    .skip)))
  (.region [6] [] [⟨(some 54), none, true, false, [], (.val (.tmp 6))⟩,
    ⟨(some 55), none, false, false, [], (.bin .add 3 (.tmp 54) (.const (.int .i64 (1))) 3)⟩,
    ⟨(some 6), none, true, false, [], (.val (.tmp 55))⟩])))
def x34B : CC :=
  (.seq (.region [1, 2] [] [⟨(some 1), none, false, true, [], (.box true (.tmp 0))⟩,
    ⟨(some 2), none, true, false, [], (.val (.const (.int .i64 (0))))⟩])
  (.seq (.seq (.region [8] [] [⟨(some 7), none, false, false, [], (.load 3 true (.tmp 1))⟩,
    ⟨(some 8), none, false, false, [], (.call (.func 54) [(.tmp 7)])⟩])
  (.cond (.tmp 8)
   (.seq (.region [2] [] [⟨(some 2), none, true, false, [], (.val (.const (.int .i64 (3))))⟩])
   .ret)
   .skip))
  (.seq (.seq (.region [24] [] [⟨(some 9), none, false, false, [], (.load 3 true (.tmp 1))⟩,
    ⟨(some 10), none, false, false, [], (.call (.func 56) [(.tmp 9), (.const (.bool false))])⟩,
    ⟨(some 11), none, false, false, [], (.call (.func 55) [(.tmp 10)])⟩,
    ⟨(some 12), none, false, false, [], (.not (.tmp 11) 4)⟩,
    ⟨(some 13), none, true, false, [], (.val (.tmp 12))⟩,
    ⟨(some 14), (some (13, false)), false, false, [], (.load 3 true (.tmp 1))⟩,
    ⟨(some 15), (some (13, false)), false, false, [], (.call (.func 56) [(.tmp 14), (.const (.bool true))])⟩,
    ⟨(some 16), (some (13, false)), false, false, [], (.call (.func 55) [(.tmp 15)])⟩,
    ⟨(some 17), (some (13, false)), false, false, [], (.not (.tmp 16) 4)⟩,
    ⟨(some 18), none, true, false, [], (.pick (.tmp 13) (.const (.bool true)) (.tmp 17))⟩,
    ⟨(some 19), none, true, false, [], (.val (.tmp 18))⟩,
    ⟨(some 20), (some (19, false)), true, false, [], (.faddr 2 (.tmp 1))⟩,
    ⟨(some 21), (some (19, false)), false, false, [], (.load 1 false (.tmp 20))⟩,
    ⟨(some 22), (some (19, false)), false, false, [], (.call (.func 55) [(.tmp 21)])⟩,
    ⟨(some 23), (some (19, false)), false, false, [], (.not (.tmp 22) 4)⟩,
    ⟨(some 24), none, true, false, [], (.pick (.tmp 19) (.const (.bool true)) (.tmp 23))⟩])
  (.cond (.tmp 24)
   (.seq (.region [2] [] [⟨(some 2), none, true, false, [], (.val (.const (.int .i64 (10))))⟩])
   .ret)
   .skip))
  (.seq (.seq (.region [27] [] [⟨(some 25), none, false, false, [], (.load 3 true (.tmp 1))⟩,
    ⟨(some 26), none, false, false, [], (.call (.func 57) [(.tmp 25)])⟩,
    ⟨(some 27), none, false, false, [], (.not (.tmp 26) 4)⟩])
  (.cond (.tmp 27)
   (.seq (.region [2] [] [⟨(some 2), none, true, false, [], (.val (.const (.int .i64 (2))))⟩])
   .ret)
   .skip))
  (.seq (.seq (.region [29] [] [⟨(some 28), none, false, false, [], (.load 3 true (.tmp 1))⟩,
    ⟨(some 29), none, false, false, [], (.call (.func 58) [(.tmp 28)])⟩])
  (.cond (.tmp 29)
   (.seq (.region [2] [] [⟨(some 2), none, true, false, [], (.val (.const (.int .i64 (8))))⟩])
   .ret)
   .skip))
  (.seq (.seq (.region [3] [] [⟨(some 3), none, true, false, [], (.val (.const (.int .i64 (0))))⟩])
  (.block 0
   (.loop x34L0)))
  (.seq (.seq (.region [6] [] [⟨(some 6), none, true, false, [], (.val (.const (.int .i64 (0))))⟩])
  (.block 2
   (.loop x34L1)))
  (.seq (.seq (.region [78] [] [⟨(some 76), none, false, false, [], (.load 3 true (.tmp 1))⟩,
    ⟨(some 77), none, false, false, [], (.call (.func 61) [(.tmp 76)])⟩,
    ⟨(some 78), none, false, false, [], (.not (.tmp 77) 4)⟩])
  (.cond (.tmp 78)
   (.seq (.region [2] [] [⟨(some 2), none, true, false, [], (.val (.const (.int .i64 (11))))⟩])
   .ret)
   .skip))
  (.seq (.region [2] [] [⟨(some 2), none, true, false, [], (.val (.const (.int .i64 (0))))⟩])
  .ret)))))))))
def x34 : XF := ⟨79, false, false, [1], [.tmp 2], x34B⟩
theorem cx34 : compF Go.Proofs.Tryz.prog cfg 34 = some x34 := by kernel_rfl
/- 15: mapsheets/mapsheetslaw15.good -/
def x15B : CC :=
  (.seq (.region [1, 2] [] [⟨(some 1), none, false, true, [], (.box true (.tmp 0))⟩,
    ⟨(some 2), none, true, false, [], (.val (.const (.bool false)))⟩])
  (.seq (.region [2] [] [⟨(some 3), none, false, false, [], (.load 3 true (.tmp 1))⟩,
    ⟨(some 4), none, false, false, [], (.call (.func 21) [(.tmp 3)])⟩,
    ⟨(some 5), none, true, false, [], (.val (.tmp 4))⟩,
    ⟨(some 6), (some (5, true)), false, false, [], (.load 3 true (.tmp 1))⟩,
    ⟨(some 7), (some (5, true)), false, false, [], (.call (.func 34) [(.tmp 6)])⟩,
    ⟨(some 8), (some (5, true)), false, false, [], (.bin .eql 35 (.tmp 7) (.const (.int .i64 (0))) 35)⟩,
    ⟨(some 9), none, true, false, [], (.pick (.tmp 5) (.tmp 8) (.const (.bool false)))⟩,
    ⟨(some 2), none, true, false, [], (.val (.tmp 9))⟩])
  .ret))
def x15 : XF := ⟨10, false, false, [1], [.tmp 2], x15B⟩
theorem cx15 : compF Go.Proofs.Tryz.prog cfg 15 = some x15 := by kernel_rfl
/- 62: mapsheets/plan.Node -/
def x62B : CC :=
  (.seq (.region [2, 3, 4, 5] [] [⟨(some 2), none, false, true, [], (.box true (.tmp 0))⟩,
    ⟨(some 3), none, false, false, [], (.box false (.tmp 1))⟩,
    ⟨(some 4), none, false, true, [], (.alloc true [(.r (.sc (.int .i64 (0)))), (.r (.sc (.int .i64 (0)))), (.r (.sc (.int .i64 (0))))])⟩,
    ⟨(some 5), none, true, false, [], (.val (.const (.bool false)))⟩])
  (.seq (.region [6] [] [⟨(some 7), none, true, false, [], (.faddr 0 (.tmp 2))⟩,
    ⟨(some 8), none, false, false, [], (.load 1 false (.tmp 7))⟩,
    ⟨(some 9), none, false, false, [], (.mkFn 93 [(.tmp 3)])⟩,
    ⟨(some 10), none, false, false, [], (.call (.func 92) [(.tmp 8), (.tmp 9)])⟩,
    ⟨(some 6), none, true, false, [], (.val (.tmp 10))⟩])
  (.seq (.seq (.region [12] [] [⟨(some 11), none, true, false, [], (.val (.tmp 6))⟩,
    ⟨(some 12), none, false, false, [], (.bin .lss 3 (.tmp 11) (.const (.int .i64 (0))) 3)⟩])
  (.cond (.tmp 12)
   (.seq (.region [5, 2, 4] [] [⟨(some 13), none, false, false, [], (.build [(.r (.sc (.int .i64 (0)))), (.r (.sc (.int .i64 (0)))), (.r (.sc (.int .i64 (0))))] [])⟩,
     ⟨none, none, false, false, [], (.store 3 (.tmp 4) (.tmp 13))⟩,
     ⟨(some 5), none, true, false, [], (.val (.const (.bool false)))⟩])
   .ret)
   .skip))
  (.seq (.region [5, 2, 4] [] [⟨(some 14), none, true, false, [], (.faddr 0 (.tmp 2))⟩,
    ⟨(some 15), none, false, false, [], (.load 1 false (.tmp 14))⟩,
    ⟨(some 16), none, true, false, [], (.val (.tmp 6))⟩,
    ⟨(some 17), none, true, false, [], (.isl 3 (.tmp 15) (.tmp 16))⟩,
    ⟨(some 18), none, false, false, [], (.load 3 true (.tmp 17))⟩,
    ⟨none, none, false, false, [], (.store 3 (.tmp 4) (.tmp 18))⟩,
    ⟨(some 5), none, true, false, [], (.val (.const (.bool true)))⟩])
  .ret))))
def x62 : XF := ⟨19, false, false, [2, 4], [.cell 4 3 true, .tmp 5], x62B⟩
theorem cx62 : compF Go.Proofs.Tryz.prog cfg 62 = some x62 := by kernel_rfl
/- 84: mapsheets/plan.Arc -/
def x84B : CC :=
  (.seq (.region [2, 3, 4, 5] [] [⟨(some 2), none, false, true, [], (.box true (.tmp 0))⟩,
    ⟨(some 3), none, false, false, [], (.box false (.tmp 1))⟩,
    ⟨(some 4), none, false, true, [], (.alloc true [(.r (.sc (.int .i64 (0)))), (.r (.sc (.int .i64 (0)))), (.r (.sc (.int .i64 (0)))), (.r (.sc (.slice none 0 0))), (.r (.sc (.int .i64 (0)))), (.r (.sc (.int .i64 (0))))])⟩,
    ⟨(some 5), none, true, false, [], (.val (.const (.bool false)))⟩])
  (.seq (.region [6] [] [⟨(some 7), none, true, false, [], (.faddr 1 (.tmp 2))⟩,
    ⟨(some 8), none, false, false, [], (.load 1 false (.tmp 7))⟩,
    ⟨(some 9), none, false, false, [], (.mkFn 125 [(.tmp 3)])⟩,
    ⟨(some 10), none, false, false, [], (.call (.func 52) [(.tmp 8), (.tmp 9)])⟩,
    ⟨(some 6), none, true, false, [], (.val (.tmp 10))⟩])
  (.seq (.seq (.region [12] [] [⟨(some 11), none, true, false, [], (.val (.tmp 6))⟩,
    ⟨(some 12), none, false, false, [], (.bin .lss 3 (.tmp 11) (.const (.int .i64 (0))) 3)⟩])
  (.cond (.tmp 12)
   (.seq (.region [5, 2, 4] [] [⟨(some 13), none, false, false, [], (.build [(.r (.sc (.int .i64 (0)))), (.r (.sc (.int .i64 (0)))), (.r (.sc (.int .i64 (0)))), (.r (.sc (.slice none 0 0))), (.r (.sc (.int .i64 (0)))), (.r (.sc (.int .i64 (0))))] [])⟩,
     ⟨none, none, false, false, [], (.store 6 (.tmp 4) (.tmp 13))⟩,
     ⟨(some 5), none, true, false, [], (.val (.const (.bool false)))⟩])
   .ret)
   .skip))
  (.seq (.region [2, 4] [] [⟨(some 14), none, true, false, [], (.faddr 1 (.tmp 2))⟩,
    ⟨(some 15), none, false, false, [], (.load 1 false (.tmp 14))⟩,
    ⟨(some 16), none, true, false, [], (.val (.tmp 6))⟩,
    ⟨(some 17), none, true, false, [], (.isl 6 (.tmp 15) (.tmp 16))⟩,
    ⟨(some 18), none, false, false, [], (.load 6 true (.tmp 17))⟩,
    ⟨none, none, false, false, [], (.store 6 (.tmp 4) (.tmp 18))⟩])
  (.seq (.region [2, 4] [] [⟨(some 19), none, true, false, [], (.faddr 3 (.tmp 4))⟩,
    ⟨(some 20), none, false, false, [], (.load 1 false (.tmp 19))⟩,
    ⟨(some 21), none, false, false, [], (.call (.func 126) [(.tmp 20)])⟩,
    ⟨(some 22), none, true, false, [], (.faddr 3 (.tmp 4))⟩,
    ⟨none, none, false, false, [], (.store 1 (.tmp 22) (.tmp 21))⟩])
  (.seq (.region [5, 2, 4] [] [⟨(some 23), none, false, false, [], (.load 6 true (.tmp 4))⟩,
    ⟨none, none, false, false, [], (.store 6 (.tmp 4) (.tmp 23))⟩,
    ⟨(some 5), none, true, false, [], (.val (.const (.bool true)))⟩])
  .ret))))))
def x84 : XF := ⟨24, false, false, [2, 4], [.cell 4 6 true, .tmp 5], x84B⟩
theorem cx84 : compF Go.Proofs.Tryz.prog cfg 84 = some x84 := by kernel_rfl
/- 48: mapsheets/plan.Path -/
def x48B : CC :=
  (.seq (.region [2, 4, 5] [] [⟨(some 2), none, false, true, [], (.box true (.tmp 0))⟩,
    ⟨(some 4), none, true, false, [], (.val (.const (.slice none 0 0)))⟩,
    ⟨(some 5), none, true, false, [], (.val (.const (.int .i64 (0))))⟩])
  (.seq (.region [6, 7, 2, 8, 10] [] [⟨(some 13), none, false, false, [], (.load 3 true (.tmp 2))⟩,
    ⟨(some 14), none, true, false, [], (.val (.tmp 1))⟩,
    ⟨(some 15), none, false, false, [], (.call (.func 84) [(.tmp 13), (.tmp 14)])⟩,
    ⟨(some 12), none, true, false, [], (.val (.tmp 15))⟩,
    ⟨(some 16), none, false, false, [], (.ext (.tmp 12) 0)⟩,
    ⟨(some 17), none, false, false, [], (.ext (.tmp 12) 1)⟩,
    ⟨(some 6), none, false, true, [12, 14], (.alloc true [(.r (.sc (.int .i64 (0)))), (.r (.sc (.int .i64 (0)))), (.r (.sc (.int .i64 (0)))), (.r (.sc (.slice none 0 0))), (.r (.sc (.int .i64 (0)))), (.r (.sc (.int .i64 (0))))])⟩,
    ⟨none, none, false, false, [], (.store 6 (.tmp 6) (.tmp 16))⟩,
    ⟨(some 7), none, true, false, [], (.val (.tmp 17))⟩])
  (.seq (.region [8, 9, 2, 6, 10] [] [⟨(some 19), none, false, false, [], (.load 3 true (.tmp 2))⟩,
    ⟨(some 20), none, true, false, [], (.faddr 1 (.tmp 6))⟩,
    ⟨(some 21), none, false, false, [], (.load 1 false (.tmp 20))⟩,
    ⟨(some 22), none, false, false, [], (.call (.func 62) [(.tmp 19), (.tmp 21)])⟩,
    ⟨(some 18), none, true, false, [], (.val (.tmp 22))⟩,
    ⟨(some 23), none, false, false, [], (.ext (.tmp 18) 0)⟩,
    ⟨(some 24), none, false, false, [], (.ext (.tmp 18) 1)⟩,
    ⟨(some 8), none, false, true, [18, 20], (.alloc true [(.r (.sc (.int .i64 (0)))), (.r (.sc (.int .i64 (0)))), (.r (.sc (.int .i64 (0))))])⟩,
    ⟨none, none, false, false, [], (.store 3 (.tmp 8) (.tmp 23))⟩,
    ⟨(some 9), none, true, false, [], (.val (.tmp 24))⟩])
  (.seq (.region [10, 11, 2, 6, 8] [] [⟨(some 26), none, false, false, [], (.load 3 true (.tmp 2))⟩,
    ⟨(some 27), none, true, false, [], (.faddr 2 (.tmp 6))⟩,
    ⟨(some 28), none, false, false, [], (.load 1 false (.tmp 27))⟩,
    ⟨(some 29), none, false, false, [], (.call (.func 62) [(.tmp 26), (.tmp 28)])⟩,
    ⟨(some 25), none, true, false, [], (.val (.tmp 29))⟩,
    ⟨(some 30), none, false, false, [], (.ext (.tmp 25) 0)⟩,
    ⟨(some 31), none, false, false, [], (.ext (.tmp 25) 1)⟩,
    ⟨(some 10), none, false, true, [25, 27], (.alloc true [(.r (.sc (.int .i64 (0)))), (.r (.sc (.int .i64 (0)))), (.r (.sc (.int .i64 (0))))])⟩,
    ⟨none, none, false, false, [], (.store 3 (.tmp 10) (.tmp 30))⟩,
    ⟨(some 11), none, true, false, [], (.val (.tmp 31))⟩])
  (.seq (.seq (.region [41] [] [⟨(some 32), none, true, false, [], (.val (.tmp 7))⟩,
    ⟨(some 33), none, false, false, [], (.not (.tmp 32) 4)⟩,
    ⟨(some 34), none, true, false, [], (.val (.tmp 33))⟩,
    ⟨(some 35), (some (34, false)), true, false, [], (.val (.tmp 9))⟩,
    ⟨(some 36), (some (34, false)), false, false, [], (.not (.tmp 35) 4)⟩,
    ⟨(some 37), none, true, false, [], (.pick (.tmp 34) (.const (.bool true)) (.tmp 36))⟩,
    ⟨(some 38), none, true, false, [], (.val (.tmp 37))⟩,
    ⟨(some 39), (some (38, false)), true, false, [], (.val (.tmp 11))⟩,
    ⟨(some 40), (some (38, false)), false, false, [], (.not (.tmp 39) 4)⟩,
    ⟨(some 41), none, true, false, [], (.pick (.tmp 38) (.const (.bool true)) (.tmp 40))⟩])
  (.cond (.tmp 41)
   (.seq (.region [4, 5] [] [⟨(some 4), none, true, false, [], (.val (.const (.slice none 0 0)))⟩,
     ⟨(some 5), none, true, false, [], (.val (.const (.int .i64 (7))))⟩])
   .ret)
   .skip))
  (.seq (.region [4] [] [⟨(some 42), none, true, false, [], (.val (.tmp 4))⟩,
    ⟨(some 43), none, true, false, [], (.faddr 1 (.tmp 8))⟩,
    ⟨(some 44), none, false, false, [], (.load 2 true (.tmp 43))⟩,
    ⟨(some 45), none, false, false, [], (.buildSl 1 2 [(.r (.sc (.int .i64 (0)))), (.r (.sc (.int .i64 (0))))] [(0, 2, (.tmp 44))])⟩,
    ⟨(some 46), none, false, false, [], (.app 2 16 (.tmp 42) (.tmp 45))⟩,
    ⟨(some 4), none, true, false, [], (.val (.tmp 46))⟩])
  (.seq (.region [4] [] [⟨(some 47), none, true, false, [], (.val (.tmp 4))⟩,
    ⟨(some 48), none, true, false, [], (.faddr 3 (.tmp 6))⟩,
    ⟨(some 49), none, false, false, [], (.load 1 false (.tmp 48))⟩,
    ⟨(some 50), none, false, false, [], (.app 2 16 (.tmp 47) (.tmp 49))⟩,
    ⟨(some 4), none, true, false, [], (.val (.tmp 50))⟩])
  (.seq (.region [4, 5] [] [⟨(some 51), none, true, false, [], (.val (.tmp 4))⟩,
    ⟨(some 52), none, true, false, [], (.faddr 1 (.tmp 10))⟩,
    ⟨(some 53), none, false, false, [], (.load 2 true (.tmp 52))⟩,
    ⟨(some 54), none, false, false, [], (.buildSl 1 2 [(.r (.sc (.int .i64 (0)))), (.r (.sc (.int .i64 (0))))] [(0, 2, (.tmp 53))])⟩,
    ⟨(some 55), none, false, false, [], (.app 2 16 (.tmp 51) (.tmp 54))⟩,
    ⟨(some 4), none, true, false, [], (.val (.tmp 55))⟩,
    ⟨(some 5), none, true, false, [], (.val (.const (.int .i64 (0))))⟩])
  .ret))))))))
def x48 : XF := ⟨56, false, false, [2, 6, 8, 10], [.tmp 4, .tmp 5], x48B⟩
theorem cx48 : compF Go.Proofs.Tryz.prog cfg 48 = some x48 := by kernel_rfl
/- 31: mapsheets/walk.arc -/
def x31B : CC :=
  (.seq (.region [2, 3, 4, 5] [] [⟨(some 2), none, false, true, [], (.box true (.tmp 0))⟩,
    ⟨(some 3), none, false, false, [], (.box false (.tmp 1))⟩,
    ⟨(some 4), none, false, true, [], (.alloc true [(.r (.sc (.int .i64 (0)))), (.r (.sc (.int .i64 (0)))), (.r (.sc (.int .i64 (0)))), (.r (.sc (.slice none 0 0))), (.r (.sc (.int .i64 (0)))), (.r (.sc (.int .i64 (0))))])⟩,
    ⟨(some 5), none, true, false, [], (.val (.const (.bool false)))⟩])
  (.seq (.seq (.region [8] [] [⟨(some 7), none, false, false, [], (.load 1 false (.tmp 3))⟩,
    ⟨(some 8), none, false, false, [], (.bin .lss 3 (.tmp 7) (.const (.int .i64 (0))) 3)⟩])
  (.cond (.tmp 8)
   (.region [2, 4] [] [⟨(some 9), none, false, false, [], (.load 1 false (.tmp 3))⟩,
     ⟨(some 10), none, false, false, [], (.cl (.unOp .neg 3 (.tmp 9)))⟩,
     ⟨none, none, false, false, [], (.store 1 (.tmp 3) (.tmp 10))⟩])
   .skip))
  (.seq (.seq (.region [12] [] [⟨(some 11), none, false, false, [], (.load 1 false (.tmp 3))⟩,
    ⟨(some 12), none, false, false, [], (.bin .leq 3 (.tmp 11) (.const (.int .i64 (0))) 3)⟩])
  (.cond (.tmp 12)
   (.seq (.region [5, 2, 4] [] [⟨(some 13), none, false, false, [], (.build [(.r (.sc (.int .i64 (0)))), (.r (.sc (.int .i64 (0)))), (.r (.sc (.int .i64 (0)))), (.r (.sc (.slice none 0 0))), (.r (.sc (.int .i64 (0)))), (.r (.sc (.int .i64 (0))))] [])⟩,
     ⟨none, none, false, false, [], (.store 6 (.tmp 4) (.tmp 13))⟩,
     ⟨(some 5), none, true, false, [], (.val (.const (.bool false)))⟩])
   .ret)
   .skip))
  (.seq (.region [6] [] [⟨(some 14), none, true, false, [], (.faddr 1 (.tmp 2))⟩,
    ⟨(some 15), none, false, false, [], (.load 1 false (.tmp 14))⟩,
    ⟨(some 16), none, false, false, [], (.mkFn 53 [(.tmp 3)])⟩,
    ⟨(some 17), none, false, false, [], (.call (.func 52) [(.tmp 15), (.tmp 16)])⟩,
    ⟨(some 6), none, true, false, [], (.val (.tmp 17))⟩])
  (.seq (.seq (.region [19] [] [⟨(some 18), none, true, false, [], (.val (.tmp 6))⟩,
    ⟨(some 19), none, false, false, [], (.bin .lss 3 (.tmp 18) (.const (.int .i64 (0))) 3)⟩])
  (.cond (.tmp 19)
   (.seq (.region [5, 2, 4] [] [⟨(some 20), none, false, false, [], (.build [(.r (.sc (.int .i64 (0)))), (.r (.sc (.int .i64 (0)))), (.r (.sc (.int .i64 (0)))), (.r (.sc (.slice none 0 0))), (.r (.sc (.int .i64 (0)))), (.r (.sc (.int .i64 (0))))] [])⟩,
     ⟨none, none, false, false, [], (.store 6 (.tmp 4) (.tmp 20))⟩,
     ⟨(some 5), none, true, false, [], (.val (.const (.bool false)))⟩])
   .ret)
   .skip))
  (.seq (.region [5, 2, 4] [] [⟨(some 21), none, true, false, [], (.faddr 1 (.tmp 2))⟩,
    ⟨(some 22), none, false, false, [], (.load 1 false (.tmp 21))⟩,
    ⟨(some 23), none, true, false, [], (.val (.tmp 6))⟩,
    ⟨(some 24), none, true, false, [], (.isl 6 (.tmp 22) (.tmp 23))⟩,
    ⟨(some 25), none, false, false, [], (.load 6 true (.tmp 24))⟩,
    ⟨none, none, false, false, [], (.store 6 (.tmp 4) (.tmp 25))⟩,
    ⟨(some 5), none, true, false, [], (.val (.const (.bool true)))⟩])
  .ret))))))
def x31 : XF := ⟨26, false, false, [2, 4], [.cell 4 6 true, .tmp 5], x31B⟩
theorem cx31 : compF Go.Proofs.Tryz.prog cfg 31 = some x31 := by kernel_rfl
/- 25: mapsheets/walk.Twice -/
def x25L0 : CC :=
  (.seq (.seq (.region [41] [] [⟨(some 38), none, true, false, [], (.val (.tmp 13))⟩,
    ⟨(some 39), none, true, false, [], (.val (.tmp 10))⟩,
    ⟨(some 40), none, false, false, [], (.len (.tmp 39))⟩,
    ⟨(some 41), none, false, false, [], (.bin .lss 3 (.tmp 38) (.tmp 40) 3)⟩])
  (.cond (.tmp 41)
   .skip
   (.exit 2)))
  (.seq (.block 3
   (.region [12] [(4, 9), (6, 9), (4, 11), (6, 11), (4, 15), (6, 15), (9, 15), (11, 15), (4, 17), (6, 17), (9, 17), (11, 17), (4, 21), (6, 21), (9, 21), (11, 21), (15, 21), (17, 21), (4, 23), (6, 23), (9, 23), (11, 23), (15, 23), (17, 23)] [⟨(some 44), none, true, false, [], (.val (.tmp 12))⟩,
     ⟨(some 45), none, true, false, [], (.val (.tmp 10))⟩,
     ⟨(some 46), none, true, false, [], (.val (.tmp 13))⟩,
     ⟨(some 47), none, false, false, [], (.bin .sub 3 (.tmp 46) (.const (.int .i64 (1))) 3)⟩,
     ⟨(some 48), none, true, false, [], (.isl 2 (.tmp 45) (.tmp 47))⟩,
     ⟨(some 49), none, true, false, [], (.faddr 0 (.tmp 48))⟩,
     ⟨(some 50), none, false, false, [], (.load 1 false (.tmp 49))⟩,
     ⟨(some 51), none, true, false, [], (.val (.tmp 10))⟩,
     ⟨(some 52), none, true, false, [], (.val (.tmp 13))⟩,
     ⟨(some 53), none, true, false, [], (.isl 2 (.tmp 51) (.tmp 52))⟩,
     ⟨(some 54), none, true, false, [], (.faddr 1 (.tmp 53))⟩,
     ⟨(some 55), none, false, false, [], (.load 1 false (.tmp 54))⟩,
     ⟨(some 56), none, false, false, [], (.bin .mul 3 (.tmp 50) (.tmp 55) 3)⟩,
     ⟨(some 57), none, true, false, [], (.val (.tmp 10))⟩,
     ⟨(some 58), none, true, false, [], (.val (.tmp 13))⟩,
     ⟨(some 59), none, true, false, [], (.isl 2 (.tmp 57) (.tmp 58))⟩,
     ⟨(some 60), none, true, false, [], (.faddr 0 (.tmp 59))⟩,
     ⟨(some 61), none, false, false, [], (.load 1 false (.tmp 60))⟩,
     ⟨(some 62), none, true, false, [], (.val (.tmp 10))⟩,
     ⟨(some 63), none, true, false, [], (.val (.tmp 13))⟩,
     ⟨(some 64), none, false, false, [], (.bin .sub 3 (.tmp 63) (.const (.int .i64 (1))) 3)⟩,
     ⟨(some 65), none, true, false, [], (.isl 2 (.tmp 62) (.tmp 64))⟩,
     ⟨(some 66), none, true, false, [], (.faddr 1 (.tmp 65))⟩,
     ⟨(some 67), none, false, false, [], (.load 1 false (.tmp 66))⟩,
     ⟨(some 68), none, false, false, [], (.bin .mul 3 (.tmp 61) (.tmp 67) 3)⟩,
     ⟨(some 69), none, false, false, [], (.bin .sub 3 (.tmp 56) (.tmp 68) 3)⟩,
     ⟨(some 70), none, false, false, [], (.bin .add 3 (.tmp 44) (.tmp 69) 3)⟩,
     ⟨(some 12), none, true, false, [], (.val (.tmp 70))⟩]))
  (.region [13] [] [⟨(some 42), none, true, false, [], (.val (.tmp 13))⟩,
    ⟨(some 43), none, false, false, [], (.bin .add 3 (.tmp 42) (.const (.int .i64 (1))) 3)⟩,
    ⟨(some 13), none, true, false, [], (.val (.tmp 43))⟩])))
def x25S0 : CC :=
  (.seq (.block 1
   (.seq (.region [7] [] [⟨(some 21), none, true, false, [], (.isl 1 (.tmp 17) (.tmp 19))⟩,
     ⟨(some 22), none, false, false, [], (.load 1 false (.tmp 21))⟩,
     ⟨(some 7), none, true, false, [], (.val (.tmp 22))⟩])
   (.seq (.region [8, 9, 2] [] [⟨(some 24), none, false, false, [], (.load 3 true (.tmp 2))⟩,
     ⟨(some 25), none, true, false, [], (.val (.tmp 7))⟩,
     ⟨(some 26), none, false, false, [], (.call (.func 31) [(.tmp 24), (.tmp 25)])⟩,
     ⟨(some 23), none, true, false, [], (.val (.tmp 26))⟩,
     ⟨(some 27), none, false, false, [], (.ext (.tmp 23) 0)⟩,
     ⟨(some 28), none, false, false, [], (.ext (.tmp 23) 1)⟩,
     ⟨(some 8), none, false, true, [23, 25], (.alloc true [(.r (.sc (.int .i64 (0)))), (.r (.sc (.int .i64 (0)))), (.r (.sc (.int .i64 (0)))), (.r (.sc (.slice none 0 0))), (.r (.sc (.int .i64 (0)))), (.r (.sc (.int .i64 (0))))])⟩,
     ⟨none, none, false, false, [], (.store 6 (.tmp 8) (.tmp 27))⟩,
     ⟨(some 9), none, true, false, [], (.val (.tmp 28))⟩])
   (.seq (.seq (.region [30] [] [⟨(some 29), none, true, false, [], (.val (.tmp 9))⟩,
     ⟨(some 30), none, false, false, [], (.not (.tmp 29) 4)⟩])
   (.cond (.tmp 30)
    (.seq (.region [4] [] [⟨(some 4), none, true, false, [], (.val (.const (.int .i64 (0))))⟩])
    .ret)
    .skip))
   (.seq (.region [10] [] [⟨(some 32), none, false, false, [], (.load 3 true (.tmp 2))⟩,
     ⟨(some 33), none, true, false, [], (.faddr 0 (.tmp 8))⟩,
     ⟨(some 34), none, false, false, [], (.load 1 false (.tmp 33))⟩,
     ⟨(some 35), none, false, false, [], (.call (.func 48) [(.tmp 32), (.tmp 34)])⟩,
     ⟨(some 31), none, true, false, [], (.val (.tmp 35))⟩,
     ⟨(some 36), none, false, false, [], (.ext (.tmp 31) 0)⟩,
     ⟨(some 37), none, false, false, [], (.ext (.tmp 31) 1)⟩,
     ⟨(some 10), none, true, false, [], (.val (.tmp 36))⟩,
     ⟨(some 11), none, true, false, [], (.val (.tmp 37))⟩])
   (.seq (.region [12] [] [⟨(some 12), none, true, false, [], (.val (.const (.int .i64 (0))))⟩])
   (.seq (.seq (.region [13] [] [⟨(some 13), none, true, false, [], (.val (.const (.int .i64 (1))))⟩])
   (.block 2
    (.loop x25L0)))
   (.seq (.seq (.region [72] [] [⟨(some 71), none, true, false, [], (.val (.tmp 7))⟩,
     ⟨(some 72), none, false, false, [], (.bin .lss 3 (.tmp 71) (.const (.int .i64 (0))) 3)⟩])
   (.cond (.tmp 72)
    (.region [12] [] [⟨(some 73), none, true, false, [], (.val (.tmp 12))⟩,
      ⟨(some 74), none, false, false, [], (.cl (.unOp .neg 3 (.tmp 73)))⟩,
      ⟨(some 12), none, true, false, [], (.val (.tmp 74))⟩])
    .skip))
   (.region [5] [] [⟨(some 75), none, true, false, [], (.val (.tmp 5))⟩,
     ⟨(some 76), none, true, false, [], (.val (.tmp 12))⟩,
     ⟨(some 77), none, false, false, [], (.bin .add 3 (.tmp 75) (.tmp 76) 3)⟩,
     ⟨(some 5), none, true, false, [], (.val (.tmp 77))⟩])))))))))
  (.region [19] [] [⟨(some 78), none, false, false, [], (.bin .add 3 (.tmp 19) (.const (.int .i64 (1))) 3)⟩,
    ⟨(some 19), none, true, false, [], (.val (.tmp 78))⟩]))
def x25L1 : CC :=
  (.seq (.region [20] [] [⟨(some 20), none, false, false, [], (.bin .lss 3 (.tmp 19) (.tmp 18) 3)⟩])
  (.seq (.cond (.tmp 20)
   .skip
   (.exit 0))
  x25S0))
def x25B : CC :=
  (.seq (.region [2, 4] [] [⟨(some 2), none, false, true, [], (.box true (.tmp 0))⟩,
    ⟨(some 4), none, true, false, [], (.val (.const (.int .i64 (0))))⟩])
  (.seq (.seq (.region [16] [] [⟨(some 14), none, true, false, [], (.val (.tmp 1))⟩,
    ⟨(some 15), none, false, false, [], (.len (.tmp 14))⟩,
    ⟨(some 16), none, false, false, [], (.bin .gtr 3 (.tmp 15) (.const (.int .i64 (512))) 3)⟩])
  (.cond (.tmp 16)
   (.seq (.region [4] [] [⟨(some 4), none, true, false, [], (.val (.const (.int .i64 (0))))⟩])
   .ret)
   .skip))
  (.seq (.region [5] [] [⟨(some 5), none, true, false, [], (.val (.const (.int .i64 (0))))⟩])
  (.seq (.seq (.region [17, 18, 19] [] [⟨(some 17), none, true, false, [], (.val (.tmp 1))⟩,
    ⟨(some 18), none, false, false, [], (.len (.tmp 17))⟩,
    ⟨(some 19), none, true, false, [], (.val (.const (.int .i64 (0))))⟩])
  (.block 0
   (.loop x25L1)))
  (.seq (.region [4] [] [⟨(some 79), none, true, false, [], (.val (.tmp 5))⟩,
    ⟨(some 4), none, true, false, [], (.val (.tmp 79))⟩])
  .ret)))))
def x25 : XF := ⟨80, false, false, [2, 8], [.tmp 4], x25B⟩
theorem cx25 : compF Go.Proofs.Tryz.prog cfg 25 = some x25 := by kernel_rfl
/- 70: mapsheets/mapsheetsref15.arc -/
def x70L0 : CC :=
  (.seq (.seq (.region [12] [] [⟨(some 8), none, true, false, [], (.val (.tmp 7))⟩,
    ⟨(some 9), none, true, false, [], (.faddr 1 (.tmp 2))⟩,
    ⟨(some 10), none, false, false, [], (.load 1 false (.tmp 9))⟩,
    ⟨(some 11), none, false, false, [], (.len (.tmp 10))⟩,
    ⟨(some 12), none, false, false, [], (.bin .lss 3 (.tmp 8) (.tmp 11) 3)⟩])
  (.cond (.tmp 12)
   .skip
   (.exit 0)))
  (.seq (.block 1
   (.seq (.seq (.region [22] [] [⟨(some 15), none, true, false, [], (.faddr 1 (.tmp 2))⟩,
     ⟨(some 16), none, false, false, [], (.load 1 false (.tmp 15))⟩,
     ⟨(some 17), none, true, false, [], (.val (.tmp 7))⟩,
     ⟨(some 18), none, true, false, [], (.isl 6 (.tmp 16) (.tmp 17))⟩,
     ⟨(some 19), none, true, false, [], (.faddr 0 (.tmp 18))⟩,
     ⟨(some 20), none, false, false, [], (.load 1 false (.tmp 19))⟩,
     ⟨(some 21), none, true, false, [], (.val (.tmp 1))⟩,
     ⟨(some 22), none, false, false, [], (.bin .eql 3 (.tmp 20) (.tmp 21) 3)⟩])
   (.cond (.tmp 22)
    (.seq (.region [5, 6, 2, 4] [] [⟨(some 23), none, true, false, [], (.faddr 1 (.tmp 2))⟩,
      ⟨(some 24), none, false, false, [], (.load 1 false (.tmp 23))⟩,
      ⟨(some 25), none, true, false, [], (.val (.tmp 7))⟩,
      ⟨(some 26), none, true, false, [], (.isl 6 (.tmp 24) (.tmp 25))⟩,
      ⟨(some 27), none, false, false, [], (.load 6 true (.tmp 26))⟩,
      ⟨none, none, false, false, [], (.store 6 (.tmp 4) (.tmp 27))⟩,
      ⟨(some 5), none, true, false, [], (.val (.const (.bool false)))⟩,
      ⟨(some 6), none, true, false, [], (.val (.const (.bool true)))⟩])
    .ret)
    .skip))
   (.seq (.region [36] [] [⟨(some 28), none, true, false, [], (.faddr 1 (.tmp 2))⟩,
     ⟨(some 29), none, false, false, [], (.load 1 false (.tmp 28))⟩,
     ⟨(some 30), none, true, false, [], (.val (.tmp 7))⟩,
     ⟨(some 31), none, true, false, [], (.isl 6 (.tmp 29) (.tmp 30))⟩,
     ⟨(some 32), none, true, false, [], (.faddr 0 (.tmp 31))⟩,
     ⟨(some 33), none, false, false, [], (.load 1 false (.tmp 32))⟩,
     ⟨(some 34), none, true, false, [], (.val (.tmp 1))⟩,
     ⟨(some 35), none, false, false, [], (.cl (.unOp .neg 3 (.tmp 34)))⟩,
     ⟨(some 36), none, false, false, [], (.bin .eql 3 (.tmp 33) (.tmp 35) 3)⟩])
   (.cond (.tmp 36)
    (.seq (.region [5, 6, 2, 4] [] [⟨(some 37), none, true, false, [], (.faddr 1 (.tmp 2))⟩,
      ⟨(some 38), none, false, false, [], (.load 1 false (.tmp 37))⟩,
      ⟨(some 39), none, true, false, [], (.val (.tmp 7))⟩,
      ⟨(some 40), none, true, false, [], (.isl 6 (.tmp 38) (.tmp 39))⟩,
      ⟨(some 41), none, false, false, [], (.load 6 true (.tmp 40))⟩,
      ⟨none, none, false, false, [], (.store 6 (.tmp 4) (.tmp 41))⟩,
      ⟨(some 5), none, true, false, [], (.val (.const (.bool true)))⟩,
      ⟨(some 6), none, true, false, [], (.val (.const (.bool true)))⟩])
    .ret)
    .skip))))
  (.region [7] [] [⟨(some 13), none, true, false, [], (.val (.tmp 7))⟩,
    ⟨(some 14), none, false, false, [], (.bin .add 3 (.tmp 13) (.const (.int .i64 (1))) 3)⟩,
    ⟨(some 7), none, true, false, [], (.val (.tmp 14))⟩])))
def x70B : CC :=
  (.seq (.region [2, 4, 5, 6] [] [⟨(some 2), none, false, true, [], (.box true (.tmp 0))⟩,
    ⟨(some 4), none, false, true, [], (.alloc true [(.r (.sc (.int .i64 (0)))), (.r (.sc (.int .i64 (0)))), (.r (.sc (.int .i64 (0)))), (.r (.sc (.slice none 0 0))), (.r (.sc (.int .i64 (0)))), (.r (.sc (.int .i64 (0))))])⟩,
    ⟨(some 5), none, true, false, [], (.val (.const (.bool false)))⟩,
    ⟨(some 6), none, true, false, [], (.val (.const (.bool false)))⟩])
  (.seq (.seq (.region [7] [] [⟨(some 7), none, true, false, [], (.val (.const (.int .i64 (0))))⟩])
  (.block 0
   (.loop x70L0)))
  (.seq (.region [5, 6, 2, 4] [] [⟨(some 42), none, false, false, [], (.build [(.r (.sc (.int .i64 (0)))), (.r (.sc (.int .i64 (0)))), (.r (.sc (.int .i64 (0)))), (.r (.sc (.slice none 0 0))), (.r (.sc (.int .i64 (0)))), (.r (.sc (.int .i64 (0))))] [])⟩,
    ⟨none, none, false, false, [], (.store 6 (.tmp 4) (.tmp 42))⟩,
    ⟨(some 5), none, true, false, [], (.val (.const (.bool false)))⟩,
    ⟨(some 6), none, true, false, [], (.val (.const (.bool false)))⟩])
  .ret)))
def x70 : XF := ⟨43, false, false, [2, 4], [.cell 4 6 true, .tmp 5, .tmp 6], x70B⟩
theorem cx70 : compF Go.Proofs.Tryz.prog cfg 70 = some x70 := by kernel_rfl
/- 40: mapsheets/mapsheetsref15.valid -/
def x40B : CC :=
  (.seq (.region [2, 4] [] [⟨(some 2), none, false, true, [], (.box true (.tmp 0))⟩,
    ⟨(some 4), none, true, false, [], (.val (.const (.bool false)))⟩])
  (.seq (.region [5, 7, 2] [] [⟨(some 9), none, false, false, [], (.load 3 true (.tmp 2))⟩,
    ⟨(some 10), none, true, false, [], (.val (.tmp 1))⟩,
    ⟨(some 11), none, false, false, [], (.call (.func 70) [(.tmp 9), (.tmp 10)])⟩,
    ⟨(some 8), none, true, false, [], (.val (.tmp 11))⟩,
    ⟨(some 12), none, false, false, [], (.ext (.tmp 8) 0)⟩,
    ⟨(some 13), none, false, false, [], (.ext (.tmp 8) 1)⟩,
    ⟨(some 14), none, false, false, [], (.ext (.tmp 8) 2)⟩,
    ⟨(some 5), none, false, true, [8, 10], (.alloc true [(.r (.sc (.int .i64 (0)))), (.r (.sc (.int .i64 (0)))), (.r (.sc (.int .i64 (0)))), (.r (.sc (.slice none 0 0))), (.r (.sc (.int .i64 (0)))), (.r (.sc (.int .i64 (0))))])⟩,
    ⟨none, none, false, false, [], (.store 6 (.tmp 5) (.tmp 12))⟩,
    ⟨(some 6), none, true, false, [], (.val (.tmp 13))⟩,
    ⟨(some 7), none, true, false, [], (.val (.tmp 14))⟩])
  (.seq (.region [4] [] [⟨(some 15), none, true, false, [], (.val (.tmp 7))⟩,
    ⟨(some 16), none, true, false, [], (.val (.tmp 15))⟩,
    ⟨(some 17), (some (16, true)), true, false, [], (.val (.tmp 1))⟩,
    ⟨(some 18), (some (16, true)), false, false, [], (.bin .neq 3 (.tmp 17) (.const (.int .i64 (0))) 3)⟩,
    ⟨(some 19), none, true, false, [], (.pick (.tmp 16) (.tmp 18) (.const (.bool false)))⟩,
    ⟨(some 4), none, true, false, [], (.val (.tmp 19))⟩])
  .ret)))
def x40 : XF := ⟨20, false, false, [2, 5], [.tmp 4], x40B⟩
theorem cx40 : compF Go.Proofs.Tryz.prog cfg 40 = some x40 := by kernel_rfl
/- 32: mapsheets/mapsheetsref14.Arc -/
def x32L0 : CC :=
  (.seq (.seq (.region [12] [] [⟨(some 8), none, true, false, [], (.val (.tmp 6))⟩,
    ⟨(some 9), none, true, false, [], (.faddr 1 (.tmp 2))⟩,
    ⟨(some 10), none, false, false, [], (.load 1 false (.tmp 9))⟩,
    ⟨(some 11), none, false, false, [], (.len (.tmp 10))⟩,
    ⟨(some 12), none, false, false, [], (.bin .lss 3 (.tmp 8) (.tmp 11) 3)⟩])
  (.cond (.tmp 12)
   .skip
   (.exit 0)))
  (.seq (.block 1
   (.seq (.region [22] [] [⟨(some 15), none, true, false, [], (.faddr 1 (.tmp 2))⟩,
     ⟨(some 16), none, false, false, [], (.load 1 false (.tmp 15))⟩,
     ⟨(some 17), none, true, false, [], (.val (.tmp 6))⟩,
     ⟨(some 18), none, true, false, [], (.isl 6 (.tmp 16) (.tmp 17))⟩,
     ⟨(some 19), none, true, false, [], (.faddr 0 (.tmp 18))⟩,
     ⟨(some 20), none, false, false, [], (.load 1 false (.tmp 19))⟩,
     ⟨(some 21), none, true, false, [], (.val (.tmp 1))⟩,
     ⟨(some 22), none, false, false, [], (.bin .eql 3 (.tmp 20) (.tmp 21) 3)⟩])
   (.cond (.tmp 22)
    (.seq (.region [7, 2, 4] [] [⟨(some 23), none, true, false, [], (.faddr 1 (.tmp 2))⟩,
      ⟨(some 24), none, false, false, [], (.load 1 false (.tmp 23))⟩,
      ⟨(some 25), none, true, false, [], (.val (.tmp 6))⟩,
      ⟨(some 26), none, true, false, [], (.isl 6 (.tmp 24) (.tmp 25))⟩,
      ⟨(some 27), none, false, false, [], (.load 6 true (.tmp 26))⟩,
      ⟨(some 7), none, false, true, [26, 25, 23], (.alloc true [(.r (.sc (.int .i64 (0)))), (.r (.sc (.int .i64 (0)))), (.r (.sc (.int .i64 (0)))), (.r (.sc (.slice none 0 0))), (.r (.sc (.int .i64 (0)))), (.r (.sc (.int .i64 (0))))])⟩,
      ⟨none, none, false, false, [], (.store 6 (.tmp 7) (.tmp 27))⟩])
    (.seq (.region [2, 4, 7] [] [⟨(some 28), none, false, false, [], (.buildSl 0 2 [] [])⟩,
      ⟨(some 29), none, true, false, [], (.faddr 3 (.tmp 7))⟩,
      ⟨(some 30), none, false, false, [], (.load 1 false (.tmp 29))⟩,
      ⟨(some 31), none, false, false, [], (.app 2 16 (.tmp 28) (.tmp 30))⟩,
      ⟨(some 32), none, true, false, [], (.faddr 3 (.tmp 7))⟩,
      ⟨none, none, false, false, [], (.store 1 (.tmp 32) (.tmp 31))⟩])
    (.seq (.region [5, 2, 4, 7] [] [⟨(some 33), none, false, false, [], (.load 6 true (.tmp 7))⟩,
      ⟨none, none, false, false, [], (.store 6 (.tmp 4) (.tmp 33))⟩,
      ⟨(some 5), none, true, false, [], (.val (.const (.bool true)))⟩])
    .ret)))
    .skip)))
  (.region [6] [] [⟨(some 13), none, true, false, [], (.val (.tmp 6))⟩,
    ⟨(some 14), none, false, false, [], (.bin .add 3 (.tmp 13) (.const (.int .i64 (1))) 3)⟩,
    ⟨(some 6), none, true, false, [], (.val (.tmp 14))⟩])))
def x32B : CC :=
  (.seq (.region [2, 4, 5] [] [⟨(some 2), none, false, true, [], (.box true (.tmp 0))⟩,
    ⟨(some 4), none, false, true, [], (.alloc true [(.r (.sc (.int .i64 (0)))), (.r (.sc (.int .i64 (0)))), (.r (.sc (.int .i64 (0)))), (.r (.sc (.slice none 0 0))), (.r (.sc (.int .i64 (0)))), (.r (.sc (.int .i64 (0))))])⟩,
    ⟨(some 5), none, true, false, [], (.val (.const (.bool false)))⟩])
  (.seq (.seq (.region [6] [] [⟨(some 6), none, true, false, [], (.val (.const (.int .i64 (0))))⟩])
  (.block 0
   (.loop x32L0)))
  (.seq (.region [5, 2, 4, 7] [] [⟨(some 34), none, false, false, [], (.build [(.r (.sc (.int .i64 (0)))), (.r (.sc (.int .i64 (0)))), (.r (.sc (.int .i64 (0)))), (.r (.sc (.slice none 0 0))), (.r (.sc (.int .i64 (0)))), (.r (.sc (.int .i64 (0))))] [])⟩,
    ⟨none, none, false, false, [], (.store 6 (.tmp 4) (.tmp 34))⟩,
    ⟨(some 5), none, true, false, [], (.val (.const (.bool false)))⟩])
  .ret)))
def x32 : XF := ⟨35, false, false, [2, 4, 7], [.cell 4 6 true, .tmp 5], x32B⟩
theorem cx32 : compF Go.Proofs.Tryz.prog cfg 32 = some x32 := by kernel_rfl
/- 85: mapsheets/mapsheetsref14.Path -/
def x85B : CC :=
  (.seq (.region [2, 4, 5] [] [⟨(some 2), none, false, true, [], (.box true (.tmp 0))⟩,
    ⟨(some 4), none, true, false, [], (.val (.const (.slice none 0 0)))⟩,
    ⟨(some 5), none, true, false, [], (.val (.const (.int .i64 (0))))⟩])
  (.seq (.region [6, 7, 2] [] [⟨(some 11), none, false, false, [], (.load 3 true (.tmp 2))⟩,
    ⟨(some 12), none, true, false, [], (.val (.tmp 1))⟩,
    ⟨(some 13), none, false, false, [], (.call (.func 32) [(.tmp 11), (.tmp 12)])⟩,
    ⟨(some 10), none, true, false, [], (.val (.tmp 13))⟩,
    ⟨(some 14), none, false, false, [], (.ext (.tmp 10) 0)⟩,
    ⟨(some 15), none, false, false, [], (.ext (.tmp 10) 1)⟩,
    ⟨(some 6), none, false, true, [10, 12], (.alloc true [(.r (.sc (.int .i64 (0)))), (.r (.sc (.int .i64 (0)))), (.r (.sc (.int .i64 (0)))), (.r (.sc (.slice none 0 0))), (.r (.sc (.int .i64 (0)))), (.r (.sc (.int .i64 (0))))])⟩,
    ⟨none, none, false, false, [], (.store 6 (.tmp 6) (.tmp 14))⟩,
    ⟨(some 7), none, true, false, [], (.val (.tmp 15))⟩])
  (.seq (.seq (.region [17] [] [⟨(some 16), none, true, false, [], (.val (.tmp 7))⟩,
    ⟨(some 17), none, false, false, [], (.not (.tmp 16) 4)⟩])
  (.cond (.tmp 17)
   (.seq (.region [4, 5] [] [⟨(some 4), none, true, false, [], (.val (.const (.slice none 0 0)))⟩,
     ⟨(some 5), none, true, false, [], (.val (.const (.int .i64 (7))))⟩])
   .ret)
   .skip))
  (.seq (.region [8, 9] [] [⟨(some 19), none, false, false, [], (.load 3 true (.tmp 2))⟩,
    ⟨(some 20), none, false, false, [], (.load 6 true (.tmp 6))⟩,
    ⟨(some 21), none, false, false, [], (.call (.func 59) [(.tmp 19), (.tmp 20)])⟩,
    ⟨(some 18), none, true, false, [], (.val (.tmp 21))⟩,
    ⟨(some 22), none, false, false, [], (.ext (.tmp 18) 0)⟩,
    ⟨(some 23), none, false, false, [], (.ext (.tmp 18) 1)⟩,
    ⟨(some 8), none, true, false, [], (.val (.tmp 22))⟩,
    ⟨(some 9), none, true, false, [], (.val (.tmp 23))⟩])
  (.seq (.seq (.region [25] [] [⟨(some 24), none, true, false, [], (.val (.tmp 9))⟩,
    ⟨(some 25), none, false, false, [], (.not (.tmp 24) 4)⟩])
  (.cond (.tmp 25)
   (.seq (.region [4, 5] [] [⟨(some 4), none, true, false, [], (.val (.const (.slice none 0 0)))⟩,
     ⟨(some 5), none, true, false, [], (.val (.const (.int .i64 (7))))⟩])
   .ret)
   .skip))
  (.seq (.region [4, 5] [] [⟨(some 26), none, true, false, [], (.val (.tmp 8))⟩,
    ⟨(some 4), none, true, false, [], (.val (.tmp 26))⟩,
    ⟨(some 5), none, true, false, [], (.val (.const (.int .i64 (0))))⟩])
  .ret))))))
def x85 : XF := ⟨27, false, false, [2, 6], [.tmp 4, .tmp 5], x85B⟩
theorem cx85 : compF Go.Proofs.Tryz.prog cfg 85 = some x85 := by kernel_rfl
/- 49: mapsheets/mapsheetsref15.Path -/
def x49L0 : CC :=
  (.seq (.seq (.region [31] [] [⟨(some 30), none, true, false, [], (.val (.tmp 10))⟩,
    ⟨(some 31), none, false, false, [], (.bin .geq 3 (.tmp 30) (.const (.int .i64 (0))) 3)⟩])
  (.cond (.tmp 31)
   .skip
   (.exit 0)))
  (.seq (.block 1
   (.region [9] [] [⟨(some 34), none, true, false, [], (.val (.tmp 9))⟩,
     ⟨(some 35), none, true, false, [], (.val (.tmp 7))⟩,
     ⟨(some 36), none, true, false, [], (.val (.tmp 10))⟩,
     ⟨(some 37), none, true, false, [], (.isl 2 (.tmp 35) (.tmp 36))⟩,
     ⟨(some 38), none, false, false, [], (.load 2 true (.tmp 37))⟩,
     ⟨(some 39), none, false, false, [], (.buildSl 1 2 [(.r (.sc (.int .i64 (0)))), (.r (.sc (.int .i64 (0))))] [(0, 2, (.tmp 38))])⟩,
     ⟨(some 40), none, false, false, [], (.app 2 16 (.tmp 34) (.tmp 39))⟩,
     ⟨(some 9), none, true, false, [], (.val (.tmp 40))⟩]))
  (.region [10] [] [⟨(some 32), none, true, false, [], (.val (.tmp 10))⟩,
    ⟨(some 33), none, false, false, [], (.bin .sub 3 (.tmp 32) (.const (.int .i64 (1))) 3)⟩,
    ⟨(some 10), none, true, false, [], (.val (.tmp 33))⟩])))
def x49B : CC :=
  (.seq (.region [2, 4] [] [⟨(some 2), none, false, true, [], (.box true (.tmp 0))⟩,
    ⟨(some 4), none, true, false, [], (.val (.const (.slice none 0 0)))⟩])
  (.seq (.seq (.region [12] [] [⟨(some 11), none, true, false, [], (.val (.tmp 1))⟩,
    ⟨(some 12), none, false, false, [], (.bin .gtr 3 (.tmp 11) (.const (.int .i64 (0))) 3)⟩])
  (.cond (.tmp 12)
   (.seq (.region [5] [] [⟨(some 14), none, false, false, [], (.load 3 true (.tmp 2))⟩,
     ⟨(some 15), none, true, false, [], (.val (.tmp 1))⟩,
     ⟨(some 16), none, false, false, [], (.call (.func 85) [(.tmp 14), (.tmp 15)])⟩,
     ⟨(some 13), none, true, false, [], (.val (.tmp 16))⟩,
     ⟨(some 17), none, false, false, [], (.ext (.tmp 13) 0)⟩,
     ⟨(some 18), none, false, false, [], (.ext (.tmp 13) 1)⟩,
     ⟨(some 5), none, true, false, [], (.val (.tmp 17))⟩,
     ⟨(some 6), none, true, false, [], (.val (.tmp 18))⟩])
   (.seq (.region [4] [] [⟨(some 19), none, true, false, [], (.val (.tmp 5))⟩,
     ⟨(some 4), none, true, false, [], (.val (.tmp 19))⟩])
   .ret))
   .skip))
  (.seq (.region [7] [] [⟨(some 21), none, false, false, [], (.load 3 true (.tmp 2))⟩,
    ⟨(some 22), none, true, false, [], (.val (.tmp 1))⟩,
    ⟨(some 23), none, false, false, [], (.cl (.unOp .neg 3 (.tmp 22)))⟩,
    ⟨(some 24), none, false, false, [], (.call (.func 85) [(.tmp 21), (.tmp 23)])⟩,
    ⟨(some 20), none, true, false, [], (.val (.tmp 24))⟩,
    ⟨(some 25), none, false, false, [], (.ext (.tmp 20) 0)⟩,
    ⟨(some 26), none, false, false, [], (.ext (.tmp 20) 1)⟩,
    ⟨(some 7), none, true, false, [], (.val (.tmp 25))⟩,
    ⟨(some 8), none, true, false, [], (.val (.tmp 26))⟩])
  (.seq (.region [9] [] [⟨(some 9), none, true, false, [], (.val (.const (.slice none 0 0)))⟩])
  (.seq (.seq (.region [10] [] [⟨(some 27), none, true, false, [], (.val (.tmp 7))⟩,
    ⟨(some 28), none, false, false, [], (.len (.tmp 27))⟩,
    ⟨(some 29), none, false, false, [], (.bin .sub 3 (.tmp 28) (.const (.int .i64 (1))) 3)⟩,
    ⟨(some 10), none, true, false, [], (.val (.tmp 29))⟩])
  (.block 0
   (.loop x49L0)))
  (.seq (.region [4] [] [⟨(some 41), none, true, false, [], (.val (.tmp 9))⟩,
    ⟨(some 4), none, true, false, [], (.val (.tmp 41))⟩])
  .ret))))))
def x49 : XF := ⟨42, false, false, [2], [.tmp 4], x49B⟩
theorem cx49 : compF Go.Proofs.Tryz.prog cfg 49 = some x49 := by kernel_rfl
/- 26: mapsheets/mapsheetsref15.Twice -/
def x26L0 : CC :=
  (.seq (.seq (.region [34] [] [⟨(some 31), none, true, false, [], (.val (.tmp 8))⟩,
    ⟨(some 32), none, true, false, [], (.val (.tmp 7))⟩,
    ⟨(some 33), none, false, false, [], (.len (.tmp 32))⟩,
    ⟨(some 34), none, false, false, [], (.bin .lss 3 (.tmp 31) (.tmp 33) 3)⟩])
  (.cond (.tmp 34)
   .skip
   (.exit 2)))
  (.seq (.block 3
   (.region [5] [(4, 9), (6, 9), (4, 11), (6, 11), (4, 16), (6, 16), (9, 16), (11, 16), (4, 18), (6, 18), (9, 18), (11, 18), (4, 22), (6, 22), (9, 22), (11, 22), (16, 22), (18, 22), (4, 24), (6, 24), (9, 24), (11, 24), (16, 24), (18, 24)] [⟨(some 37), none, true, false, [], (.val (.tmp 5))⟩,
     ⟨(some 38), none, true, false, [], (.val (.tmp 7))⟩,
     ⟨(some 39), none, true, false, [], (.val (.tmp 8))⟩,
     ⟨(some 40), none, false, false, [], (.bin .sub 3 (.tmp 39) (.const (.int .i64 (1))) 3)⟩,
     ⟨(some 41), none, true, false, [], (.isl 2 (.tmp 38) (.tmp 40))⟩,
     ⟨(some 42), none, true, false, [], (.faddr 0 (.tmp 41))⟩,
     ⟨(some 43), none, false, false, [], (.load 1 false (.tmp 42))⟩,
     ⟨(some 44), none, true, false, [], (.val (.tmp 7))⟩,
     ⟨(some 45), none, true, false, [], (.val (.tmp 8))⟩,
     ⟨(some 46), none, true, false, [], (.isl 2 (.tmp 44) (.tmp 45))⟩,
     ⟨(some 47), none, true, false, [], (.faddr 1 (.tmp 46))⟩,
     ⟨(some 48), none, false, false, [], (.load 1 false (.tmp 47))⟩,
     ⟨(some 49), none, false, false, [], (.bin .mul 3 (.tmp 43) (.tmp 48) 3)⟩,
     ⟨(some 50), none, false, false, [], (.bin .add 3 (.tmp 37) (.tmp 49) 3)⟩,
     ⟨(some 51), none, true, false, [], (.val (.tmp 7))⟩,
     ⟨(some 52), none, true, false, [], (.val (.tmp 8))⟩,
     ⟨(some 53), none, true, false, [], (.isl 2 (.tmp 51) (.tmp 52))⟩,
     ⟨(some 54), none, true, false, [], (.faddr 0 (.tmp 53))⟩,
     ⟨(some 55), none, false, false, [], (.load 1 false (.tmp 54))⟩,
     ⟨(some 56), none, true, false, [], (.val (.tmp 7))⟩,
     ⟨(some 57), none, true, false, [], (.val (.tmp 8))⟩,
     ⟨(some 58), none, false, false, [], (.bin .sub 3 (.tmp 57) (.const (.int .i64 (1))) 3)⟩,
     ⟨(some 59), none, true, false, [], (.isl 2 (.tmp 56) (.tmp 58))⟩,
     ⟨(some 60), none, true, false, [], (.faddr 1 (.tmp 59))⟩,
     ⟨(some 61), none, false, false, [], (.load 1 false (.tmp 60))⟩,
     ⟨(some 62), none, false, false, [], (.bin .mul 3 (.tmp 55) (.tmp 61) 3)⟩,
     ⟨(some 63), none, false, false, [], (.bin .sub 3 (.tmp 50) (.tmp 62) 3)⟩,
     ⟨(some 5), none, true, false, [], (.val (.tmp 63))⟩]))
  (.region [8] [] [⟨(some 35), none, true, false, [], (.val (.tmp 8))⟩,
    ⟨(some 36), none, false, false, [], (.bin .add 3 (.tmp 35) (.const (.int .i64 (1))) 3)⟩,
    ⟨(some 8), none, true, false, [], (.val (.tmp 36))⟩])))
def x26L1 : CC :=
  (.seq (.seq (.region [15] [] [⟨(some 12), none, true, false, [], (.val (.tmp 6))⟩,
    ⟨(some 13), none, true, false, [], (.val (.tmp 1))⟩,
    ⟨(some 14), none, false, false, [], (.len (.tmp 13))⟩,
    ⟨(some 15), none, false, false, [], (.bin .lss 3 (.tmp 12) (.tmp 14) 3)⟩])
  (.cond (.tmp 15)
   .skip
   (.exit 0)))
  (.seq (.block 1
   (.seq (.seq (.region [24] [(0, 3), (0, 4)] [⟨(some 18), none, false, false, [], (.load 3 true (.tmp 2))⟩,
     ⟨(some 19), none, true, false, [], (.val (.tmp 1))⟩,
     ⟨(some 20), none, true, false, [], (.val (.tmp 6))⟩,
     ⟨(some 21), none, true, false, [], (.isl 1 (.tmp 19) (.tmp 20))⟩,
     ⟨(some 22), none, false, false, [], (.load 1 false (.tmp 21))⟩,
     ⟨(some 23), none, false, false, [], (.call (.func 40) [(.tmp 18), (.tmp 22)])⟩,
     ⟨(some 24), none, false, false, [], (.not (.tmp 23) 4)⟩])
   (.cond (.tmp 24)
    (.seq (.region [4] [] [⟨(some 4), none, true, false, [], (.val (.const (.int .i64 (0))))⟩])
    .ret)
    .skip))
   (.seq (.region [7] [(0, 3), (0, 4)] [⟨(some 25), none, false, false, [], (.load 3 true (.tmp 2))⟩,
     ⟨(some 26), none, true, false, [], (.val (.tmp 1))⟩,
     ⟨(some 27), none, true, false, [], (.val (.tmp 6))⟩,
     ⟨(some 28), none, true, false, [], (.isl 1 (.tmp 26) (.tmp 27))⟩,
     ⟨(some 29), none, false, false, [], (.load 1 false (.tmp 28))⟩,
     ⟨(some 30), none, false, false, [], (.call (.func 49) [(.tmp 25), (.tmp 29)])⟩,
     ⟨(some 7), none, true, false, [], (.val (.tmp 30))⟩])
   (.seq (.region [8] [] [⟨(some 8), none, true, false, [], (.val (.const (.int .i64 (1))))⟩])
   (.block 2
    (.loop x26L0))))))
  (.region [6] [] [⟨(some 16), none, true, false, [], (.val (.tmp 6))⟩,
    ⟨(some 17), none, false, false, [], (.bin .add 3 (.tmp 16) (.const (.int .i64 (1))) 3)⟩,
    ⟨(some 6), none, true, false, [], (.val (.tmp 17))⟩])))
def x26B : CC :=
  (.seq (.region [2, 4] [] [⟨(some 2), none, false, true, [], (.box true (.tmp 0))⟩,
    ⟨(some 4), none, true, false, [], (.val (.const (.int .i64 (0))))⟩])
  (.seq (.seq (.region [11] [] [⟨(some 9), none, true, false, [], (.val (.tmp 1))⟩,
    ⟨(some 10), none, false, false, [], (.len (.tmp 9))⟩,
    ⟨(some 11), none, false, false, [], (.bin .gtr 3 (.tmp 10) (.const (.int .i64 (512))) 3)⟩])
  (.cond (.tmp 11)
   (.seq (.region [4] [] [⟨(some 4), none, true, false, [], (.val (.const (.int .i64 (0))))⟩])
   .ret)
   .skip))
  (.seq (.region [5] [] [⟨(some 5), none, true, false, [], (.val (.const (.int .i64 (0))))⟩])
  (.seq (.seq (.region [6] [] [⟨(some 6), none, true, false, [], (.val (.const (.int .i64 (0))))⟩])
  (.block 0
   (.loop x26L1)))
  (.seq (.region [4] [] [⟨(some 64), none, true, false, [], (.val (.tmp 5))⟩,
    ⟨(some 4), none, true, false, [], (.val (.tmp 64))⟩])
  .ret)))))
def x26 : XF := ⟨65, false, false, [2], [.tmp 4], x26B⟩
theorem cx26 : compF Go.Proofs.Tryz.prog cfg 26 = some x26 := by kernel_rfl
/- 6: mapsheets/mapsheetslaw15.WalkTwice -/
def x6B : CC :=
  (.seq (.region [2, 4] [] [⟨(some 2), none, false, true, [], (.box true (.tmp 0))⟩,
    ⟨(some 4), none, true, false, [], (.val (.const (.bool false)))⟩])
  (.seq (.seq (.region [7] [] [⟨(some 5), none, false, false, [], (.load 3 true (.tmp 2))⟩,
    ⟨(some 6), none, false, false, [], (.call (.func 15) [(.tmp 5)])⟩,
    ⟨(some 7), none, false, false, [], (.not (.tmp 6) 4)⟩])
  (.cond (.tmp 7)
   (.seq (.region [4] [] [⟨(some 8), none, false, false, [], (.call (.func 14) [])⟩,
     ⟨(some 4), none, true, false, [], (.val (.tmp 8))⟩])
   .ret)
   .skip))
  (.seq (.region [4] [(0, 3), (2, 3)] [⟨(some 9), none, false, false, [], (.load 3 true (.tmp 2))⟩,
    ⟨(some 10), none, true, false, [], (.val (.tmp 1))⟩,
    ⟨(some 11), none, false, false, [], (.call (.func 25) [(.tmp 9), (.tmp 10)])⟩,
    ⟨(some 12), none, false, false, [], (.load 3 true (.tmp 2))⟩,
    ⟨(some 13), none, true, false, [], (.val (.tmp 1))⟩,
    ⟨(some 14), none, false, false, [], (.call (.func 26) [(.tmp 12), (.tmp 13)])⟩,
    ⟨(some 15), none, false, false, [], (.bin .eql 3 (.tmp 11) (.tmp 14) 3)⟩,
    ⟨(some 16), none, true, false, [], (.val (.tmp 15))⟩,
    ⟨(some 17), (some (16, true)), false, false, [], (.call (.func 14) [])⟩,
    ⟨(some 18), none, true, false, [], (.pick (.tmp 16) (.tmp 17) (.const (.bool false)))⟩,
    ⟨(some 4), none, true, false, [], (.val (.tmp 18))⟩])
  .ret)))
def x6 : XF := ⟨19, false, false, [2], [.tmp 4], x6B⟩
theorem cx6 : compF Go.Proofs.Tryz.prog cfg 6 = some x6 := by kernel_rfl
/- 52: slices.IndexFunc[[]mapsheets/api.Arc,mapsheets/api.Arc] -/
def x52S0 : CC :=
  (.seq (.block 1
   (.seq (.region [5] [] [⟨(some 10), none, true, false, [], (.val (.tmp 8))⟩,
     ⟨(some 5), none, true, false, [], (.val (.tmp 10))⟩])
   (.seq (.region [16] [] [⟨(some 11), none, true, false, [], (.val (.tmp 1))⟩,
     ⟨(some 12), none, true, false, [], (.val (.tmp 0))⟩,
     ⟨(some 13), none, true, false, [], (.val (.tmp 5))⟩,
     ⟨(some 14), none, true, false, [], (.isl 6 (.tmp 12) (.tmp 13))⟩,
     ⟨(some 15), none, false, false, [], (.load 6 true (.tmp 14))⟩,
     ⟨(some 16), none, false, false, [], (.call (.tmp 11) [(.tmp 15)])⟩])
   (.cond (.tmp 16)
    (.seq (.region [4] [] [⟨(some 17), none, true, false, [], (.val (.tmp 5))⟩,
      ⟨(some 4), none, true, false, [], (.val (.tmp 17))⟩])
    .ret)
    .skip))))
  (.region [8] [] [⟨(some 18), none, false, false, [], (.bin .add 3 (.tmp 8) (.const (.int .i64 (1))) 3)⟩,
    ⟨(some 8), none, true, false, [], (.val (.tmp 18))⟩]))
def x52L0 : CC :=
  (.seq (.region [9] [] [⟨(some 9), none, false, false, [], (.bin .lss 3 (.tmp 8) (.tmp 7) 3)⟩])
  (.seq (.cond (.tmp 9)
   .skip
   (.exit 0))
  x52S0))
def x52B : CC :=
  (.seq (.region [4] [] [⟨(some 4), none, true, false, [], (.val (.const (.int .i64 (0))))⟩])
  (.seq (.seq (.region [7, 8] [] [⟨(some 6), none, true, false, [], (.val (.tmp 0))⟩,
    ⟨(some 7), none, false, false, [], (.len (.tmp 6))⟩,
    ⟨(some 8), none, true, false, [], (.val (.const (.int .i64 (0))))⟩])
  (.block 0
   (.loop x52L0)))
  (.seq (.region [4] [] [⟨(some 4), none, true, false, [], (.val (.const (.int .i64 (-1))))⟩])
  .ret)))
def x52 : XF := ⟨19, true, false, [], [.tmp 4], x52B⟩
theorem cx52 : compF Go.Proofs.Tryz.prog cfg 52 = some x52 := by kernel_rfl
/- 53: mapsheets/walk.arc$1 -/
def x53B : CC :=
  (.seq (.region [2, 3] [] [⟨(some 2), none, false, true, [], (.box true (.tmp 0))⟩,
    ⟨(some 3), none, true, false, [], (.val (.const (.bool false)))⟩])
  (.seq (.region [3] [] [⟨(some 4), none, true, false, [], (.faddr 0 (.tmp 2))⟩,
    ⟨(some 5), none, false, false, [], (.load 1 false (.tmp 4))⟩,
    ⟨(some 6), none, false, false, [], (.load 1 false (.tmp 1))⟩,
    ⟨(some 7), none, false, false, [], (.bin .eql 3 (.tmp 5) (.tmp 6) 3)⟩,
    ⟨(some 3), none, true, false, [], (.val (.tmp 7))⟩])
  .ret))
def x53 : XF := ⟨8, false, false, [2], [.tmp 3], x53B⟩
theorem cx53 : compF Go.Proofs.Tryz.prog cfg 53 = some x53 := by kernel_rfl
/- 92: slices.IndexFunc[[]mapsheets/api.Node,mapsheets/api.Node] -/
def x92S0 : CC :=
  (.seq (.block 1
   (.seq (.region [5] [] [⟨(some 10), none, true, false, [], (.val (.tmp 8))⟩,
     ⟨(some 5), none, true, false, [], (.val (.tmp 10))⟩])
   (.seq (.region [16] [] [⟨(some 11), none, true, false, [], (.val (.tmp 1))⟩,
     ⟨(some 12), none, true, false, [], (.val (.tmp 0))⟩,
     ⟨(some 13), none, true, false, [], (.val (.tmp 5))⟩,
     ⟨(some 14), none, true, false, [], (.isl 3 (.tmp 12) (.tmp 13))⟩,
     ⟨(some 15), none, false, false, [], (.load 3 true (.tmp 14))⟩,
     ⟨(some 16), none, false, false, [], (.call (.tmp 11) [(.tmp 15)])⟩])
   (.cond (.tmp 16)
    (.seq (.region [4] [] [⟨(some 17), none, true, false, [], (.val (.tmp 5))⟩,
      ⟨(some 4), none, true, false, [], (.val (.tmp 17))⟩])
    .ret)
    .skip))))
  (.region [8] [] [⟨(some 18), none, false, false, [], (.bin .add 3 (.tmp 8) (.const (.int .i64 (1))) 3)⟩,
    ⟨(some 8), none, true, false, [], (.val (.tmp 18))⟩]))
def x92L0 : CC :=
  (.seq (.region [9] [] [⟨(some 9), none, false, false, [], (.bin .lss 3 (.tmp 8) (.tmp 7) 3)⟩])
  (.seq (.cond (.tmp 9)
   .skip
   (.exit 0))
  x92S0))
def x92B : CC :=
  (.seq (.region [4] [] [⟨(some 4), none, true, false, [], (.val (.const (.int .i64 (0))))⟩])
  (.seq (.seq (.region [7, 8] [] [⟨(some 6), none, true, false, [], (.val (.tmp 0))⟩,
    ⟨(some 7), none, false, false, [], (.len (.tmp 6))⟩,
    ⟨(some 8), none, true, false, [], (.val (.const (.int .i64 (0))))⟩])
  (.block 0
   (.loop x92L0)))
  (.seq (.region [4] [] [⟨(some 4), none, true, false, [], (.val (.const (.int .i64 (-1))))⟩])
  .ret)))
def x92 : XF := ⟨19, true, false, [], [.tmp 4], x92B⟩
theorem cx92 : compF Go.Proofs.Tryz.prog cfg 92 = some x92 := by kernel_rfl
/- 93: mapsheets/plan.Node$1 -/
def x93B : CC :=
  (.seq (.region [2, 3] [] [⟨(some 2), none, false, true, [], (.box true (.tmp 0))⟩,
    ⟨(some 3), none, true, false, [], (.val (.const (.bool false)))⟩])
  (.seq (.region [3] [] [⟨(some 4), none, true, false, [], (.faddr 0 (.tmp 2))⟩,
    ⟨(some 5), none, false, false, [], (.load 1 false (.tmp 4))⟩,
    ⟨(some 6), none, false, false, [], (.load 1 false (.tmp 1))⟩,
    ⟨(some 7), none, false, false, [], (.bin .eql 3 (.tmp 5) (.tmp 6) 3)⟩,
    ⟨(some 3), none, true, false, [], (.val (.tmp 7))⟩])
  .ret))
def x93 : XF := ⟨8, false, false, [2], [.tmp 3], x93B⟩
theorem cx93 : compF Go.Proofs.Tryz.prog cfg 93 = some x93 := by kernel_rfl
/- 125: mapsheets/plan.Arc$1 -/
def x125B : CC :=
  (.seq (.region [2, 3] [] [⟨(some 2), none, false, true, [], (.box true (.tmp 0))⟩,
    ⟨(some 3), none, true, false, [], (.val (.const (.bool false)))⟩])
  (.seq (.region [3] [] [⟨(some 4), none, true, false, [], (.faddr 0 (.tmp 2))⟩,
    ⟨(some 5), none, false, false, [], (.load 1 false (.tmp 4))⟩,
    ⟨(some 6), none, false, false, [], (.load 1 false (.tmp 1))⟩,
    ⟨(some 7), none, false, false, [], (.bin .eql 3 (.tmp 5) (.tmp 6) 3)⟩,
    ⟨(some 3), none, true, false, [], (.val (.tmp 7))⟩])
  .ret))
def x125 : XF := ⟨8, false, false, [2], [.tmp 3], x125B⟩
theorem cx125 : compF Go.Proofs.Tryz.prog cfg 125 = some x125 := by kernel_rfl
end Go.TL
