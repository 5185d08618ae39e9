/- Functions of the program, made ready (printed by program). -/
import Derived.Test.YtbobgmjenekahaaGreatCfg
import Derived.Test.YtbobgmjenekahaaGreatTG
import Derived.KernelRfl
import Derived.Test.YtbobgmjenekahaaGreatAw
set_option linter.unusedVariables false
set_option linter.unusedSimpArgs false
namespace Go.TL
set_option maxRecDepth 1000000
/- 3: mapsheets/mapsheetslaw15.WalkDarts -/
def x3B : CC :=
  (.seq (.region [2, 4] [] [⟨(some 2), none, false, true, [], (.box true (.tmp 0))⟩,
    ⟨(some 4), none, true, false, [], (.val (.const (.bool false)))⟩])
  (.seq (.region [4] [(0, 3), (2, 3), (8, 11), (10, 11)] [⟨(some 5), none, false, false, [], (.load 3 true (.tmp 2))⟩,
    ⟨(some 6), none, true, false, [], (.val (.tmp 1))⟩,
    ⟨(some 7), none, false, false, [], (.call (.func 10) [(.tmp 5), (.tmp 6)])⟩,
    ⟨(some 8), none, false, false, [], (.load 3 true (.tmp 2))⟩,
    ⟨(some 9), none, true, false, [], (.val (.tmp 1))⟩,
    ⟨(some 10), none, false, false, [], (.call (.func 11) [(.tmp 8), (.tmp 9)])⟩,
    ⟨(some 11), none, false, false, [], (.bin .eql 3 (.tmp 7) (.tmp 10) 3)⟩,
    ⟨(some 12), none, true, false, [], (.val (.tmp 11))⟩,
    ⟨(some 13), (some (12, true)), false, false, [], (.load 3 true (.tmp 2))⟩,
    ⟨(some 14), (some (12, true)), true, false, [], (.val (.tmp 1))⟩,
    ⟨(some 15), (some (12, true)), false, false, [], (.call (.func 12) [(.tmp 13), (.tmp 14)])⟩,
    ⟨(some 16), (some (12, true)), false, false, [], (.load 3 true (.tmp 2))⟩,
    ⟨(some 17), (some (12, true)), true, false, [], (.val (.tmp 1))⟩,
    ⟨(some 18), (some (12, true)), false, false, [], (.call (.func 13) [(.tmp 16), (.tmp 17)])⟩,
    ⟨(some 19), (some (12, true)), false, false, [], (.bin .eql 3 (.tmp 15) (.tmp 18) 3)⟩,
    ⟨(some 20), none, true, false, [], (.pick (.tmp 12) (.tmp 19) (.const (.bool false)))⟩,
    ⟨(some 21), none, true, false, [], (.val (.tmp 20))⟩,
    ⟨(some 22), (some (21, true)), false, false, [], (.call (.func 14) [])⟩,
    ⟨(some 23), none, true, false, [], (.pick (.tmp 21) (.tmp 22) (.const (.bool false)))⟩,
    ⟨(some 4), none, true, false, [], (.val (.tmp 23))⟩])
  .ret))
def x3 : XF := ⟨24, false, false, [2], [.tmp 4], x3B⟩
theorem cx3 : compF Go.Proofs.Tryz.prog cfg 3 = some x3 := by kernel_rfl
/- 10: mapsheets/walk.Start -/
def x10B : CC :=
  (.seq (.region [2, 4] [] [⟨(some 2), none, false, true, [], (.box true (.tmp 0))⟩,
    ⟨(some 4), none, true, false, [], (.val (.const (.int .i64 (0))))⟩])
  (.seq (.region [5, 2] [] [⟨(some 8), none, false, false, [], (.load 3 true (.tmp 2))⟩,
    ⟨(some 9), none, true, false, [], (.val (.tmp 1))⟩,
    ⟨(some 10), none, false, false, [], (.call (.func 31) [(.tmp 8), (.tmp 9)])⟩,
    ⟨(some 7), none, true, false, [], (.val (.tmp 10))⟩,
    ⟨(some 11), none, false, false, [], (.ext (.tmp 7) 0)⟩,
    ⟨(some 12), none, false, false, [], (.ext (.tmp 7) 1)⟩,
    ⟨(some 5), none, false, true, [7, 9], (.alloc true [(.r (.sc (.int .i64 (0)))), (.r (.sc (.int .i64 (0)))), (.r (.sc (.int .i64 (0)))), (.r (.sc (.slice none 0 0))), (.r (.sc (.int .i64 (0)))), (.r (.sc (.int .i64 (0))))])⟩,
    ⟨none, none, false, false, [], (.store 6 (.tmp 5) (.tmp 11))⟩,
    ⟨(some 6), none, true, false, [], (.val (.tmp 12))⟩])
  (.seq (.seq (.region [14] [] [⟨(some 13), none, true, false, [], (.val (.tmp 1))⟩,
    ⟨(some 14), none, false, false, [], (.bin .lss 3 (.tmp 13) (.const (.int .i64 (0))) 3)⟩])
  (.cond (.tmp 14)
   (.seq (.region [4] [] [⟨(some 15), none, true, false, [], (.faddr 2 (.tmp 5))⟩,
     ⟨(some 16), none, false, false, [], (.load 1 false (.tmp 15))⟩,
     ⟨(some 4), none, true, false, [], (.val (.tmp 16))⟩])
   .ret)
   .skip))
  (.seq (.region [4] [] [⟨(some 17), none, true, false, [], (.faddr 1 (.tmp 5))⟩,
    ⟨(some 18), none, false, false, [], (.load 1 false (.tmp 17))⟩,
    ⟨(some 4), none, true, false, [], (.val (.tmp 18))⟩])
  .ret))))
def x10 : XF := ⟨19, false, false, [2, 5], [.tmp 4], x10B⟩
theorem cx10 : compF Go.Proofs.Tryz.prog cfg 10 = some x10 := by kernel_rfl
/- 11: mapsheets/mapsheetsref15.Start -/
def x11B : CC :=
  (.seq (.region [2, 4] [] [⟨(some 2), none, false, true, [], (.box true (.tmp 0))⟩,
    ⟨(some 4), none, true, false, [], (.val (.const (.int .i64 (0))))⟩])
  (.seq (.seq (.region [10] [] [⟨(some 9), none, true, false, [], (.val (.tmp 1))⟩,
    ⟨(some 10), none, false, false, [], (.bin .gtr 3 (.tmp 9) (.const (.int .i64 (0))) 3)⟩])
  (.cond (.tmp 10)
   (.seq (.region [5, 2, 7] [] [⟨(some 12), none, false, false, [], (.load 3 true (.tmp 2))⟩,
     ⟨(some 13), none, true, false, [], (.val (.tmp 1))⟩,
     ⟨(some 14), none, false, false, [], (.call (.func 32) [(.tmp 12), (.tmp 13)])⟩,
     ⟨(some 11), none, true, false, [], (.val (.tmp 14))⟩,
     ⟨(some 15), none, false, false, [], (.ext (.tmp 11) 0)⟩,
     ⟨(some 16), none, false, false, [], (.ext (.tmp 11) 1)⟩,
     ⟨(some 5), none, false, true, [11, 13], (.alloc true [(.r (.sc (.int .i64 (0)))), (.r (.sc (.int .i64 (0)))), (.r (.sc (.int .i64 (0)))), (.r (.sc (.slice none 0 0))), (.r (.sc (.int .i64 (0)))), (.r (.sc (.int .i64 (0))))])⟩,
     ⟨none, none, false, false, [], (.store 6 (.tmp 5) (.tmp 15))⟩,
     ⟨(some 6), none, true, false, [], (.val (.tmp 16))⟩])
   (.seq (.region [4] [] [⟨(some 17), none, true, false, [], (.faddr 1 (.tmp 5))⟩,
     ⟨(some 18), none, false, false, [], (.load 1 false (.tmp 17))⟩,
     ⟨(some 4), none, true, false, [], (.val (.tmp 18))⟩])
   .ret))
   .skip))
  (.seq (.seq (.region [21] [] [⟨(some 19), none, true, false, [], (.val (.tmp 1))⟩,
    ⟨(some 20), none, false, false, [], (.cl (.unOp .neg 3 (.tmp 19)))⟩,
    ⟨(some 21), none, false, false, [], (.bin .gtr 3 (.tmp 20) (.const (.int .i64 (0))) 3)⟩])
  (.cond (.tmp 21)
   (.seq (.region [7, 2, 5] [] [⟨(some 23), none, false, false, [], (.load 3 true (.tmp 2))⟩,
     ⟨(some 24), none, true, false, [], (.val (.tmp 1))⟩,
     ⟨(some 25), none, false, false, [], (.cl (.unOp .neg 3 (.tmp 24)))⟩,
     ⟨(some 26), none, false, false, [], (.call (.func 32) [(.tmp 23), (.tmp 25)])⟩,
     ⟨(some 22), none, true, false, [], (.val (.tmp 26))⟩,
     ⟨(some 27), none, false, false, [], (.ext (.tmp 22) 0)⟩,
     ⟨(some 28), none, false, false, [], (.ext (.tmp 22) 1)⟩,
     ⟨(some 7), none, false, true, [22, 24], (.alloc true [(.r (.sc (.int .i64 (0)))), (.r (.sc (.int .i64 (0)))), (.r (.sc (.int .i64 (0)))), (.r (.sc (.slice none 0 0))), (.r (.sc (.int .i64 (0)))), (.r (.sc (.int .i64 (0))))])⟩,
     ⟨none, none, false, false, [], (.store 6 (.tmp 7) (.tmp 27))⟩,
     ⟨(some 8), none, true, false, [], (.val (.tmp 28))⟩])
   (.seq (.region [4] [] [⟨(some 29), none, true, false, [], (.faddr 2 (.tmp 7))⟩,
     ⟨(some 30), none, false, false, [], (.load 1 false (.tmp 29))⟩,
     ⟨(some 4), none, true, false, [], (.val (.tmp 30))⟩])
   .ret))
   .skip))
  (.seq (.region [4] [] [⟨(some 4), none, true, false, [], (.val (.const (.int .i64 (0))))⟩])
  .ret))))
def x11 : XF := ⟨31, false, false, [2, 5, 7], [.tmp 4], x11B⟩
theorem cx11 : compF Go.Proofs.Tryz.prog cfg 11 = some x11 := by kernel_rfl
/- 12: mapsheets/walk.Side -/
def x12B : CC :=
  (.seq (.region [2, 4] [] [⟨(some 2), none, false, true, [], (.box true (.tmp 0))⟩,
    ⟨(some 4), none, true, false, [], (.val (.const (.int .i64 (0))))⟩])
  (.seq (.region [5, 2] [] [⟨(some 8), none, false, false, [], (.load 3 true (.tmp 2))⟩,
    ⟨(some 9), none, true, false, [], (.val (.tmp 1))⟩,
    ⟨(some 10), none, false, false, [], (.call (.func 31) [(.tmp 8), (.tmp 9)])⟩,
    ⟨(some 7), none, true, false, [], (.val (.tmp 10))⟩,
    ⟨(some 11), none, false, false, [], (.ext (.tmp 7) 0)⟩,
    ⟨(some 12), none, false, false, [], (.ext (.tmp 7) 1)⟩,
    ⟨(some 5), none, false, true, [7, 9], (.alloc true [(.r (.sc (.int .i64 (0)))), (.r (.sc (.int .i64 (0)))), (.r (.sc (.int .i64 (0)))), (.r (.sc (.slice none 0 0))), (.r (.sc (.int .i64 (0)))), (.r (.sc (.int .i64 (0))))])⟩,
    ⟨none, none, false, false, [], (.store 6 (.tmp 5) (.tmp 11))⟩,
    ⟨(some 6), none, true, false, [], (.val (.tmp 12))⟩])
  (.seq (.seq (.region [14] [] [⟨(some 13), none, true, false, [], (.val (.tmp 1))⟩,
    ⟨(some 14), none, false, false, [], (.bin .lss 3 (.tmp 13) (.const (.int .i64 (0))) 3)⟩])
  (.cond (.tmp 14)
   (.seq (.region [4] [] [⟨(some 15), none, true, false, [], (.faddr 5 (.tmp 5))⟩,
     ⟨(some 16), none, false, false, [], (.load 1 false (.tmp 15))⟩,
     ⟨(some 4), none, true, false, [], (.val (.tmp 16))⟩])
   .ret)
   .skip))
  (.seq (.region [4] [] [⟨(some 17), none, true, false, [], (.faddr 4 (.tmp 5))⟩,
    ⟨(some 18), none, false, false, [], (.load 1 false (.tmp 17))⟩,
    ⟨(some 4), none, true, false, [], (.val (.tmp 18))⟩])
  .ret))))
def x12 : XF := ⟨19, false, false, [2, 5], [.tmp 4], x12B⟩
theorem cx12 : compF Go.Proofs.Tryz.prog cfg 12 = some x12 := by kernel_rfl
/- 13: mapsheets/mapsheetsref15.Side -/
def x13B : CC :=
  (.seq (.region [2, 4] [] [⟨(some 2), none, false, true, [], (.box true (.tmp 0))⟩,
    ⟨(some 4), none, true, false, [], (.val (.const (.int .i64 (0))))⟩])
  (.seq (.seq (.region [10] [] [⟨(some 9), none, true, false, [], (.val (.tmp 1))⟩,
    ⟨(some 10), none, false, false, [], (.bin .gtr 3 (.tmp 9) (.const (.int .i64 (0))) 3)⟩])
  (.cond (.tmp 10)
   (.seq (.region [5, 2, 7] [] [⟨(some 12), none, false, false, [], (.load 3 true (.tmp 2))⟩,
     ⟨(some 13), none, true, false, [], (.val (.tmp 1))⟩,
     ⟨(some 14), none, false, false, [], (.call (.func 32) [(.tmp 12), (.tmp 13)])⟩,
     ⟨(some 11), none, true, false, [], (.val (.tmp 14))⟩,
     ⟨(some 15), none, false, false, [], (.ext (.tmp 11) 0)⟩,
     ⟨(some 16), none, false, false, [], (.ext (.tmp 11) 1)⟩,
     ⟨(some 5), none, false, true, [11, 13], (.alloc true [(.r (.sc (.int .i64 (0)))), (.r (.sc (.int .i64 (0)))), (.r (.sc (.int .i64 (0)))), (.r (.sc (.slice none 0 0))), (.r (.sc (.int .i64 (0)))), (.r (.sc (.int .i64 (0))))])⟩,
     ⟨none, none, false, false, [], (.store 6 (.tmp 5) (.tmp 15))⟩,
     ⟨(some 6), none, true, false, [], (.val (.tmp 16))⟩])
   (.seq (.region [4] [] [⟨(some 17), none, true, false, [], (.faddr 4 (.tmp 5))⟩,
     ⟨(some 18), none, false, false, [], (.load 1 false (.tmp 17))⟩,
     ⟨(some 4), none, true, false, [], (.val (.tmp 18))⟩])
   .ret))
   .skip))
  (.seq (.seq (.region [21] [] [⟨(some 19), none, true, false, [], (.val (.tmp 1))⟩,
    ⟨(some 20), none, false, false, [], (.cl (.unOp .neg 3 (.tmp 19)))⟩,
    ⟨(some 21), none, false, false, [], (.bin .gtr 3 (.tmp 20) (.const (.int .i64 (0))) 3)⟩])
  (.cond (.tmp 21)
   (.seq (.region [7, 2, 5] [] [⟨(some 23), none, false, false, [], (.load 3 true (.tmp 2))⟩,
     ⟨(some 24), none, true, false, [], (.val (.tmp 1))⟩,
     ⟨(some 25), none, false, false, [], (.cl (.unOp .neg 3 (.tmp 24)))⟩,
     ⟨(some 26), none, false, false, [], (.call (.func 32) [(.tmp 23), (.tmp 25)])⟩,
     ⟨(some 22), none, true, false, [], (.val (.tmp 26))⟩,
     ⟨(some 27), none, false, false, [], (.ext (.tmp 22) 0)⟩,
     ⟨(some 28), none, false, false, [], (.ext (.tmp 22) 1)⟩,
     ⟨(some 7), none, false, true, [22, 24], (.alloc true [(.r (.sc (.int .i64 (0)))), (.r (.sc (.int .i64 (0)))), (.r (.sc (.int .i64 (0)))), (.r (.sc (.slice none 0 0))), (.r (.sc (.int .i64 (0)))), (.r (.sc (.int .i64 (0))))])⟩,
     ⟨none, none, false, false, [], (.store 6 (.tmp 7) (.tmp 27))⟩,
     ⟨(some 8), none, true, false, [], (.val (.tmp 28))⟩])
   (.seq (.region [4] [] [⟨(some 29), none, true, false, [], (.faddr 5 (.tmp 7))⟩,
     ⟨(some 30), none, false, false, [], (.load 1 false (.tmp 29))⟩,
     ⟨(some 4), none, true, false, [], (.val (.tmp 30))⟩])
   .ret))
   .skip))
  (.seq (.region [4] [] [⟨(some 4), none, true, false, [], (.val (.const (.int .i64 (0))))⟩])
  .ret))))
def x13 : XF := ⟨31, false, false, [2, 5, 7], [.tmp 4], x13B⟩
theorem cx13 : compF Go.Proofs.Tryz.prog cfg 13 = some x13 := by kernel_rfl
/- 31: mapsheets/walk.arc -/
def x31B : CC :=
  (.seq (.region [2, 3, 4, 5] [] [⟨(some 2), none, false, true, [], (.box true (.tmp 0))⟩,
    ⟨(some 3), none, false, false, [], (.box false (.tmp 1))⟩,
    ⟨(some 4), none, false, true, [], (.alloc true [(.r (.sc (.int .i64 (0)))), (.r (.sc (.int .i64 (0)))), (.r (.sc (.int .i64 (0)))), (.r (.sc (.slice none 0 0))), (.r (.sc (.int .i64 (0)))), (.r (.sc (.int .i64 (0))))])⟩,
    ⟨(some 5), none, true, false, [], (.val (.const (.bool false)))⟩])
  (.seq (.seq (.region [8] [] [⟨(some 7), none, false, false, [], (.load 1 false (.tmp 3))⟩,
    ⟨(some 8), none, false, false, [], (.bin .lss 3 (.tmp 7) (.const (.int .i64 (0))) 3)⟩])
  (.cond (.tmp 8)
   (.region [2, 4] [] [⟨(some 9), none, false, false, [], (.load 1 false (.tmp 3))⟩,
     ⟨(some 10), none, false, false, [], (.cl (.unOp .neg 3 (.tmp 9)))⟩,
     ⟨none, none, false, false, [], (.store 1 (.tmp 3) (.tmp 10))⟩])
   .skip))
  (.seq (.seq (.region [12] [] [⟨(some 11), none, false, false, [], (.load 1 false (.tmp 3))⟩,
    ⟨(some 12), none, false, false, [], (.bin .leq 3 (.tmp 11) (.const (.int .i64 (0))) 3)⟩])
  (.cond (.tmp 12)
   (.seq (.region [5, 2, 4] [] [⟨(some 13), none, false, false, [], (.build [(.r (.sc (.int .i64 (0)))), (.r (.sc (.int .i64 (0)))), (.r (.sc (.int .i64 (0)))), (.r (.sc (.slice none 0 0))), (.r (.sc (.int .i64 (0)))), (.r (.sc (.int .i64 (0))))] [])⟩,
     ⟨none, none, false, false, [], (.store 6 (.tmp 4) (.tmp 13))⟩,
     ⟨(some 5), none, true, false, [], (.val (.const (.bool false)))⟩])
   .ret)
   .skip))
  (.seq (.region [6] [] [⟨(some 14), none, true, false, [], (.faddr 1 (.tmp 2))⟩,
    ⟨(some 15), none, false, false, [], (.load 1 false (.tmp 14))⟩,
    ⟨(some 16), none, false, false, [], (.mkFn 53 [(.tmp 3)])⟩,
    ⟨(some 17), none, false, false, [], (.call (.func 52) [(.tmp 15), (.tmp 16)])⟩,
    ⟨(some 6), none, true, false, [], (.val (.tmp 17))⟩])
  (.seq (.seq (.region [19] [] [⟨(some 18), none, true, false, [], (.val (.tmp 6))⟩,
    ⟨(some 19), none, false, false, [], (.bin .lss 3 (.tmp 18) (.const (.int .i64 (0))) 3)⟩])
  (.cond (.tmp 19)
   (.seq (.region [5, 2, 4] [] [⟨(some 20), none, false, false, [], (.build [(.r (.sc (.int .i64 (0)))), (.r (.sc (.int .i64 (0)))), (.r (.sc (.int .i64 (0)))), (.r (.sc (.slice none 0 0))), (.r (.sc (.int .i64 (0)))), (.r (.sc (.int .i64 (0))))] [])⟩,
     ⟨none, none, false, false, [], (.store 6 (.tmp 4) (.tmp 20))⟩,
     ⟨(some 5), none, true, false, [], (.val (.const (.bool false)))⟩])
   .ret)
   .skip))
  (.seq (.region [5, 2, 4] [] [⟨(some 21), none, true, false, [], (.faddr 1 (.tmp 2))⟩,
    ⟨(some 22), none, false, false, [], (.load 1 false (.tmp 21))⟩,
    ⟨(some 23), none, true, false, [], (.val (.tmp 6))⟩,
    ⟨(some 24), none, true, false, [], (.isl 6 (.tmp 22) (.tmp 23))⟩,
    ⟨(some 25), none, false, false, [], (.load 6 true (.tmp 24))⟩,
    ⟨none, none, false, false, [], (.store 6 (.tmp 4) (.tmp 25))⟩,
    ⟨(some 5), none, true, false, [], (.val (.const (.bool true)))⟩])
  .ret))))))
def x31 : XF := ⟨26, false, false, [2, 4], [.cell 4 6 true, .tmp 5], x31B⟩
theorem cx31 : compF Go.Proofs.Tryz.prog cfg 31 = some x31 := by kernel_rfl
/- 32: mapsheets/mapsheetsref14.Arc -/
def x32L0 : CC :=
  (.seq (.seq (.region [12] [] [⟨(some 8), none, true, false, [], (.val (.tmp 6))⟩,
    ⟨(some 9), none, true, false, [], (.faddr 1 (.tmp 2))⟩,
    ⟨(some 10), none, false, false, [], (.load 1 false (.tmp 9))⟩,
    ⟨(some 11), none, false, false, [], (.len (.tmp 10))⟩,
    ⟨(some 12), none, false, false, [], (.bin .lss 3 (.tmp 8) (.tmp 11) 3)⟩])
  (.cond (.tmp 12)
   .skip
   (.exit 0)))
  (.seq (.block 1
   (.seq (.region [22] [] [⟨(some 15), none, true, false, [], (.faddr 1 (.tmp 2))⟩,
     ⟨(some 16), none, false, false, [], (.load 1 false (.tmp 15))⟩,
     ⟨(some 17), none, true, false, [], (.val (.tmp 6))⟩,
     ⟨(some 18), none, true, false, [], (.isl 6 (.tmp 16) (.tmp 17))⟩,
     ⟨(some 19), none, true, false, [], (.faddr 0 (.tmp 18))⟩,
     ⟨(some 20), none, false, false, [], (.load 1 false (.tmp 19))⟩,
     ⟨(some 21), none, true, false, [], (.val (.tmp 1))⟩,
     ⟨(some 22), none, false, false, [], (.bin .eql 3 (.tmp 20) (.tmp 21) 3)⟩])
   (.cond (.tmp 22)
    (.seq (.region [7, 2, 4] [] [⟨(some 23), none, true, false, [], (.faddr 1 (.tmp 2))⟩,
      ⟨(some 24), none, false, false, [], (.load 1 false (.tmp 23))⟩,
      ⟨(some 25), none, true, false, [], (.val (.tmp 6))⟩,
      ⟨(some 26), none, true, false, [], (.isl 6 (.tmp 24) (.tmp 25))⟩,
      ⟨(some 27), none, false, false, [], (.load 6 true (.tmp 26))⟩,
      ⟨(some 7), none, false, true, [26, 25, 23], (.alloc true [(.r (.sc (.int .i64 (0)))), (.r (.sc (.int .i64 (0)))), (.r (.sc (.int .i64 (0)))), (.r (.sc (.slice none 0 0))), (.r (.sc (.int .i64 (0)))), (.r (.sc (.int .i64 (0))))])⟩,
      ⟨none, none, false, false, [], (.store 6 (.tmp 7) (.tmp 27))⟩])
    (.seq (.region [2, 4, 7] [] [⟨(some 28), none, false, false, [], (.buildSl 0 2 [] [])⟩,
      ⟨(some 29), none, true, false, [], (.faddr 3 (.tmp 7))⟩,
      ⟨(some 30), none, false, false, [], (.load 1 false (.tmp 29))⟩,
      ⟨(some 31), none, false, false, [], (.app 2 16 (.tmp 28) (.tmp 30))⟩,
      ⟨(some 32), none, true, false, [], (.faddr 3 (.tmp 7))⟩,
      ⟨none, none, false, false, [], (.store 1 (.tmp 32) (.tmp 31))⟩])
    (.seq (.region [5, 2, 4, 7] [] [⟨(some 33), none, false, false, [], (.load 6 true (.tmp 7))⟩,
      ⟨none, none, false, false, [], (.store 6 (.tmp 4) (.tmp 33))⟩,
      ⟨(some 5), none, true, false, [], (.val (.const (.bool true)))⟩])
    .ret)))
    .skip)))
  (.region [6] [] [⟨(some 13), none, true, false, [], (.val (.tmp 6))⟩,
    ⟨(some 14), none, false, false, [], (.bin .add 3 (.tmp 13) (.const (.int .i64 (1))) 3)⟩,
    ⟨(some 6), none, true, false, [], (.val (.tmp 14))⟩])))
def x32B : CC :=
  (.seq (.region [2, 4, 5] [] [⟨(some 2), none, false, true, [], (.box true (.tmp 0))⟩,
    ⟨(some 4), none, false, true, [], (.alloc true [(.r (.sc (.int .i64 (0)))), (.r (.sc (.int .i64 (0)))), (.r (.sc (.int .i64 (0)))), (.r (.sc (.slice none 0 0))), (.r (.sc (.int .i64 (0)))), (.r (.sc (.int .i64 (0))))])⟩,
    ⟨(some 5), none, true, false, [], (.val (.const (.bool false)))⟩])
  (.seq (.seq (.region [6] [] [⟨(some 6), none, true, false, [], (.val (.const (.int .i64 (0))))⟩])
  (.block 0
   (.loop x32L0)))
  (.seq (.region [5, 2, 4, 7] [] [⟨(some 34), none, false, false, [], (.build [(.r (.sc (.int .i64 (0)))), (.r (.sc (.int .i64 (0)))), (.r (.sc (.int .i64 (0)))), (.r (.sc (.slice none 0 0))), (.r (.sc (.int .i64 (0)))), (.r (.sc (.int .i64 (0))))] [])⟩,
    ⟨none, none, false, false, [], (.store 6 (.tmp 4) (.tmp 34))⟩,
    ⟨(some 5), none, true, false, [], (.val (.const (.bool false)))⟩])
  .ret)))
def x32 : XF := ⟨35, false, false, [2, 4, 7], [.cell 4 6 true, .tmp 5], x32B⟩
theorem cx32 : compF Go.Proofs.Tryz.prog cfg 32 = some x32 := by kernel_rfl
/- 52: slices.IndexFunc[[]mapsheets/api.Arc,mapsheets/api.Arc] -/
def x52L0 : CC :=
  (.seq (.region [9] [] [⟨(some 9), none, false, false, [], (.bin .lss 3 (.tmp 8) (.tmp 7) 3)⟩])
  (.seq (.cond (.tmp 9)
   .skip
   (.exit 0))
  (.seq (.block 1
   (.seq (.region [5] [] [⟨(some 10), none, true, false, [], (.val (.tmp 8))⟩,
     ⟨(some 5), none, true, false, [], (.val (.tmp 10))⟩])
   (.seq (.region [16] [] [⟨(some 11), none, true, false, [], (.val (.tmp 1))⟩,
     ⟨(some 12), none, true, false, [], (.val (.tmp 0))⟩,
     ⟨(some 13), none, true, false, [], (.val (.tmp 5))⟩,
     ⟨(some 14), none, true, false, [], (.isl 6 (.tmp 12) (.tmp 13))⟩,
     ⟨(some 15), none, false, false, [], (.load 6 true (.tmp 14))⟩,
     ⟨(some 16), none, false, false, [], (.call (.tmp 11) [(.tmp 15)])⟩])
   (.cond (.tmp 16)
    (.seq (.region [4] [] [⟨(some 17), none, true, false, [], (.val (.tmp 5))⟩,
      ⟨(some 4), none, true, false, [], (.val (.tmp 17))⟩])
    .ret)
    .skip))))
  (.region [8] [] [⟨(some 18), none, false, false, [], (.bin .add 3 (.tmp 8) (.const (.int .i64 (1))) 3)⟩,
    ⟨(some 8), none, true, false, [], (.val (.tmp 18))⟩]))))
def x52B : CC :=
  (.seq (.region [4] [] [⟨(some 4), none, true, false, [], (.val (.const (.int .i64 (0))))⟩])
  (.seq (.seq (.region [7, 8] [] [⟨(some 6), none, true, false, [], (.val (.tmp 0))⟩,
    ⟨(some 7), none, false, false, [], (.len (.tmp 6))⟩,
    ⟨(some 8), none, true, false, [], (.val (.const (.int .i64 (0))))⟩])
  (.block 0
   (.loop x52L0)))
  (.seq (.region [4] [] [⟨(some 4), none, true, false, [], (.val (.const (.int .i64 (-1))))⟩])
  .ret)))
def x52 : XF := ⟨19, true, false, [], [.tmp 4], x52B⟩
theorem cx52 : compF Go.Proofs.Tryz.prog cfg 52 = some x52 := by kernel_rfl
/- 53: mapsheets/walk.arc$1 -/
def x53B : CC :=
  (.seq (.region [2, 3] [] [⟨(some 2), none, false, true, [], (.box true (.tmp 0))⟩,
    ⟨(some 3), none, true, false, [], (.val (.const (.bool false)))⟩])
  (.seq (.region [3] [] [⟨(some 4), none, true, false, [], (.faddr 0 (.tmp 2))⟩,
    ⟨(some 5), none, false, false, [], (.load 1 false (.tmp 4))⟩,
    ⟨(some 6), none, false, false, [], (.load 1 false (.tmp 1))⟩,
    ⟨(some 7), none, false, false, [], (.bin .eql 3 (.tmp 5) (.tmp 6) 3)⟩,
    ⟨(some 3), none, true, false, [], (.val (.tmp 7))⟩])
  .ret))
def x53 : XF := ⟨8, false, false, [2], [.tmp 3], x53B⟩
theorem cx53 : compF Go.Proofs.Tryz.prog cfg 53 = some x53 := by kernel_rfl
end Go.TL
/- slices.IndexFunc, over arcs. -/
namespace Go.TL
open Go.Proofs.Tryz
set_option maxRecDepth 10000
theorem loop52 {orc : CallF} {g : Nat} {cs : List TV} {S : TS} {α : Type} {l : List α} {enc : α → List RV} (p : α → Bool) (hlen : l.length ≤ 9223372036854775000) (h6 : ∀ a, (enc a).length = 6)
    (hcall : ∀ a, a ∈ l → callX prog cfg orc g (.agg ((enc a).map .r) :: cs) S = some (B (p a), S, none)) (Q : TX → Fr → TS → Prop) :
    ∀ (k i : Nat) (f : Fr), i + k = l.length → (∀ f' (j : Nat), (l.drop i).findIdx? p = some j → f' 4 = I (i + j : Nat) → Q .ret f' S) → (∀ f', (l.drop i).findIdx? p = none → Q (.exit 0) f' S) →
      f 0 = .r (.lst (l.map enc) none) → f 1 = .fn g cs → f 7 = I l.length → f 8 = I i → wp prog x52.loc (callX prog cfg orc) (.loop x52L0) Q f S
  | 0, i, f, hk, h1, h2, f0, f1, f7, f8 => by
    apply wp_round x52L0.eq_1
    have hi : ¬ ((i : Int) < (l.length : Int)) := by omega
    simp only [x52, exists_eq_left', if_true, if_false, ne_eq, forall_const, implies_true, beq_self_eq_true, ws0, ws1, ws2, ws3, ws4, ws5, ws6, ws7, ws8, Nat.reduceAdd, Nat.reduceSub, Nat.reduceMul, Nat.reduceBEq, Nat.reduceEqDiff, Nat.reduceLeDiff, Nat.reduceLT, reduceCtorEq, f0, f1, f7, f8, hi]
    apply h2
    rw [List.drop_eq_nil_of_le (by omega)]; rfl
  | k + 1, i, f, hk, h1, h2, f0, f1, f7, f8 => by
    apply wp_round x52L0.eq_1
    have hi : ((i : Int) < (l.length : Int)) := by omega
    obtain ⟨e, he⟩ : ∃ e, l[i]? = some e := ⟨l[i], List.getElem?_eq_getElem (by omega)⟩
    have hm := List.mem_of_getElem? he
    have hw : IntKind.wrap .i64 ((i : Int) + 1) = ((i + 1 : Nat) : Int) := by rw [wrap_id] <;> omega
    have hd : l.drop i = e :: l.drop (i + 1) := by
      obtain ⟨h, rfl⟩ := List.getElem?_eq_some_iff.1 he
      exact List.drop_eq_getElem_cons h
    rw [hd] at h1 h2
    simp only [x52, exists_eq_left', if_true, if_false, ne_eq, forall_const, implies_true, beq_self_eq_true, ws0, ws1, ws2, ws3, ws4, ws5, ws6, ws7, ws8, Nat.reduceAdd, Nat.reduceSub, Nat.reduceMul, Nat.reduceBEq, Nat.reduceEqDiff, Nat.reduceLeDiff, Nat.reduceLT, reduceCtorEq, f0, f1, f7, f8, hi, map_get he, h6 e, loadF_whole, hcall e hm, hw]
    cases hp : p e
    · simp only [hp, exists_eq_left', if_true, if_false, ne_eq, forall_const, implies_true, beq_self_eq_true, ws0, ws1, ws2, ws3, ws4, ws5, ws6, ws7, ws8, Nat.reduceAdd, Nat.reduceSub, Nat.reduceMul, Nat.reduceBEq, Nat.reduceEqDiff, Nat.reduceLeDiff, Nat.reduceLT, reduceCtorEq]
      refine loop52 p hlen h6 hcall Q k (i + 1) _ (by omega) (fun f' j hj hf' => h1 f' (j + 1) ?_ ?_) (fun f' hj => h2 f' ?_) ?_ ?_ ?_ ?_
      · simp [List.findIdx?_cons, hp, hj]
      · rw [hf', show i + 1 + j = i + (j + 1) by omega]
      · simp [List.findIdx?_cons, hp, hj]
      all_goals simp only [exists_eq_left', if_true, if_false, ne_eq, forall_const, implies_true, beq_self_eq_true, ws0, ws1, ws2, ws3, ws4, ws5, ws6, ws7, ws8, Nat.reduceAdd, Nat.reduceSub, Nat.reduceMul, Nat.reduceBEq, Nat.reduceEqDiff, Nat.reduceLeDiff, Nat.reduceLT, reduceCtorEq, f0, f1, f7]
    · simp only [hp, exists_eq_left', if_true, if_false, ne_eq, forall_const, implies_true, beq_self_eq_true, ws0, ws1, ws2, ws3, ws4, ws5, ws6, ws7, ws8, Nat.reduceAdd, Nat.reduceSub, Nat.reduceMul, Nat.reduceBEq, Nat.reduceEqDiff, Nat.reduceLeDiff, Nat.reduceLT, reduceCtorEq]
      refine h1 _ 0 ?_ ?_
      · simp [List.findIdx?_cons, hp]
      · simp only [exists_eq_left', if_true, if_false, ne_eq, forall_const, implies_true, beq_self_eq_true, ws0, ws1, ws2, ws3, ws4, ws5, ws6, ws7, ws8, Nat.reduceAdd, Nat.reduceSub, Nat.reduceMul, Nat.reduceBEq, Nat.reduceEqDiff, Nat.reduceLeDiff, Nat.reduceLT, reduceCtorEq]
theorem t52 {orc : CallF} {g : Nat} {cs : List TV} {os : List TO} {α : Type} {l : List α} {enc : α → List RV} (p : α → Bool) (hlen : l.length ≤ 9223372036854775000) (h6 : ∀ a, (enc a).length = 6)
    (hcall : ∀ a, a ∈ l → callX prog cfg orc g (.agg ((enc a).map .r) :: cs) (E0 os) = some (B (p a), E0 os, none)) (hl : leaks os.length os 0 = false) : callL prog cfg orc 52 [.r (.lst (l.map enc) none), .fn g cs] (E0 os) = some (I (idxOf p l), E0 os, none) := by
  refine callL_wp cx52 (ax := [.r (.lst (l.map enc) none), .fn g cs]) (S1 := E0 os) rfl rfl ?_
  simp only [x52, x52B, List.length_map, exists_eq_left', if_true, if_false, ne_eq, forall_const, implies_true, beq_self_eq_true, ws0, ws1, ws2, ws3, ws4, ws5, ws6, ws7, ws8, Nat.reduceAdd, Nat.reduceSub, Nat.reduceMul, Nat.reduceBEq, Nat.reduceEqDiff, Nat.reduceLeDiff, Nat.reduceLT, reduceCtorEq]
  refine loop52 p hlen h6 hcall _ l.length 0 _ (by omega) (fun f' j hj hf' => ?_) (fun f' hj => ?_) ?_ ?_ ?_ ?_
  · simp only [exists_eq_left', if_true, if_false, ne_eq, forall_const, implies_true, beq_self_eq_true, ws0, ws1, ws2, ws3, ws4, ws5, ws6, ws7, ws8, Nat.reduceAdd, Nat.reduceSub, Nat.reduceMul, Nat.reduceBEq, Nat.reduceEqDiff, Nat.reduceLeDiff, Nat.reduceLT, reduceCtorEq, hf', hl, List.drop_zero] at hj ⊢
    simp only [idxOf, hj, exists_eq_left', if_true, if_false, ne_eq, forall_const, implies_true, beq_self_eq_true, ws0, ws1, ws2, ws3, ws4, ws5, ws6, ws7, ws8, Nat.reduceAdd, Nat.reduceSub, Nat.reduceMul, Nat.reduceBEq, Nat.reduceEqDiff, Nat.reduceLeDiff, Nat.reduceLT, reduceCtorEq]
  · simp only [exists_eq_left', if_true, if_false, ne_eq, forall_const, implies_true, beq_self_eq_true, ws0, ws1, ws2, ws3, ws4, ws5, ws6, ws7, ws8, Nat.reduceAdd, Nat.reduceSub, Nat.reduceMul, Nat.reduceBEq, Nat.reduceEqDiff, Nat.reduceLeDiff, Nat.reduceLT, reduceCtorEq, hl, List.drop_zero] at hj ⊢
    simp only [idxOf, hj, exists_eq_left', if_true, if_false, ne_eq, forall_const, implies_true, beq_self_eq_true, ws0, ws1, ws2, ws3, ws4, ws5, ws6, ws7, ws8, Nat.reduceAdd, Nat.reduceSub, Nat.reduceMul, Nat.reduceBEq, Nat.reduceEqDiff, Nat.reduceLeDiff, Nat.reduceLT, reduceCtorEq]
  all_goals simp only [exists_eq_left', if_true, if_false, ne_eq, forall_const, implies_true, beq_self_eq_true, ws0, ws1, ws2, ws3, ws4, ws5, ws6, ws7, ws8, Nat.reduceAdd, Nat.reduceSub, Nat.reduceMul, Nat.reduceBEq, Nat.reduceEqDiff, Nat.reduceLeDiff, Nat.reduceLT, reduceCtorEq]
end Go.TL
/- walk.arc. -/
namespace Go.TL
open Go.Proofs.Tryz
set_option maxRecDepth 10000

theorem t53 {orc : CallF} {a : Arc} {d : Int} : callL prog cfg orc 53 [.agg (a.e.map .r), .ptr 0 0] (E0 [.box [I d]]) = some (B (a.id == d), E0 [.box [I d]], none) := by
  refine callL_wp cx53 (ax := [.agg (a.e.map .r), .ptr 0 0]) (S1 := E0 [.box [I d]]) rfl rfl ?_
  simp only [x53, x53B, Arc.e, exists_eq_left', if_true, if_false, ne_eq, forall_const, implies_true, beq_self_eq_true, ws0, ws1, ws2, ws3, ws4, ws5, ws6, ws7, ws8, Nat.reduceAdd, Nat.reduceSub, Nat.reduceMul, Nat.reduceBEq, Nat.reduceEqDiff, Nat.reduceLeDiff, Nat.reduceLT, reduceCtorEq]

def findArc (p : Plan) (d : Int) : Option Arc := if d ≤ 0 then none else p.arcs.find? (fun a => a.id == d)
def neg64 (d : Int) : Int := IntKind.wrap .i64 (0 - d)
def pos64 (d : Int) : Int := if d < 0 then neg64 d else d
def arcR (o : Option Arc) : TV := match o with | some a => .tup [a.v, B true] | none => .tup [arc0, B false]

theorem t31 {p : Plan} {d : Int} (hp : p.arcs.length ≤ 9223372036854775000) : callL prog cfg (famT []) 31 [p.e, I d] (E0 []) = some (arcR (findArc p (pos64 d)), E0 [], none) := by
  have h52 : ∀ d, callX prog cfg (famT []) 52 [.r (.lst (p.arcs.map Arc.e) none), .fn 53 [.ptr 0 0]] (E0 [.box [I d]]) = some (I (idxOf (fun a => a.id == d) p.arcs), E0 [.box [I d]], none) := by
    intro d
    rw [callX_none (fun _ => rfl)]
    refine t52 _ hp (fun a => rfl) (fun a _ => ?_) rfl
    rw [callX_none (fun _ => rfl), t53]
  refine callL_wp cx31 (ax := [p.e, I d]) (S1 := E0 []) rfl rfl ?_
  simp only [x31, x31B, Plan.e, exists_eq_left', if_true, if_false, ne_eq, forall_const, implies_true, beq_self_eq_true, ws0, ws1, ws2, ws3, ws4, ws5, ws6, ws7, ws8, Nat.reduceAdd, Nat.reduceSub, Nat.reduceMul, Nat.reduceBEq, Nat.reduceEqDiff, Nat.reduceLeDiff, Nat.reduceLT, reduceCtorEq, h52]
  have key : ∀ e, ¬ e ≤ 0 → (idxOf (fun a => a.id == e) p.arcs < 0 ∧ findArc p e = none) ∨ ∃ (i : Nat) (a : Arc), idxOf (fun a => a.id == e) p.arcs = i ∧ p.arcs[i]? = some a ∧ findArc p e = some a := by
    intro e he
    simp only [findArc, he, if_false]
    rcases idxOf_cases (fun a : Arc => a.id == e) p.arcs with ⟨h1, h2⟩ | ⟨i, a, h1, h2, h3⟩
    · exact .inl ⟨by omega, h2⟩
    · exact .inr ⟨i, a, h1, h2, h3⟩
  refine ⟨fun hd => ⟨fun h0 => ?_, fun h0 => ?_⟩, fun hd => ⟨fun h0 => ?_, fun h0 => ?_⟩⟩
  all_goals simp only [pos64, hd, neg64, if_true, if_false]
  · simp only [findArc, h0, if_true]; rfl
  · rcases key _ h0 with ⟨h1, h2⟩ | ⟨i, a, h1, h2, h3⟩
    · simp only [h1, h2, exists_eq_left', if_true, if_false, ne_eq, forall_const, implies_true, beq_self_eq_true, ws0, ws1, ws2, ws3, ws4, ws5, ws6, ws7, ws8, Nat.reduceAdd, Nat.reduceSub, Nat.reduceMul, Nat.reduceBEq, Nat.reduceEqDiff, Nat.reduceLeDiff, Nat.reduceLT, reduceCtorEq]; rfl
    · have hn : ¬ ((i : Int) < 0) := by omega
      rw [h1, h3]
      simp only [hn, map_get h2, Arc.e, exists_eq_left', if_true, if_false, ne_eq, forall_const, implies_true, beq_self_eq_true, ws0, ws1, ws2, ws3, ws4, ws5, ws6, ws7, ws8, Nat.reduceAdd, Nat.reduceSub, Nat.reduceMul, Nat.reduceBEq, Nat.reduceEqDiff, Nat.reduceLeDiff, Nat.reduceLT, reduceCtorEq]; rfl
  · simp only [findArc, h0, if_true]; rfl
  · rcases key _ h0 with ⟨h1, h2⟩ | ⟨i, a, h1, h2, h3⟩
    · simp only [h1, h2, exists_eq_left', if_true, if_false, ne_eq, forall_const, implies_true, beq_self_eq_true, ws0, ws1, ws2, ws3, ws4, ws5, ws6, ws7, ws8, Nat.reduceAdd, Nat.reduceSub, Nat.reduceMul, Nat.reduceBEq, Nat.reduceEqDiff, Nat.reduceLeDiff, Nat.reduceLT, reduceCtorEq]; rfl
    · have hn : ¬ ((i : Int) < 0) := by omega
      rw [h1, h3]
      simp only [hn, map_get h2, Arc.e, exists_eq_left', if_true, if_false, ne_eq, forall_const, implies_true, beq_self_eq_true, ws0, ws1, ws2, ws3, ws4, ws5, ws6, ws7, ws8, Nat.reduceAdd, Nat.reduceSub, Nat.reduceMul, Nat.reduceBEq, Nat.reduceEqDiff, Nat.reduceLeDiff, Nat.reduceLT, reduceCtorEq]; rfl
end Go.TL
/- The reference's look-up of an arc. -/
namespace Go.TL
open Go.Proofs.Tryz
set_option maxRecDepth 10000

theorem via_ok (l : List Pt) : allLen 2 (l.map Pt.e) = true ∧ (l.map Pt.e).all (fun e => e.all okR) = true := by
  constructor
  · simp only [allLen, List.all_map, List.all_eq_true, Function.comp]; intro x _; rfl
  · simp [Pt.e, okR, okV]

theorem loop32 {p : Plan} {d : Int} (hp : p.arcs.length ≤ 1048576) (hv : ∀ a, a ∈ p.arcs → a.via.length ≤ 1048576) (Q : TX → Fr → TS → Prop) :
    ∀ (k i : Nat) (f : Fr), i + k = p.arcs.length → (∀ f' a os, (p.arcs.drop i).find? (fun a => a.id == d) = some a → f' 5 = B true → (f' 4 = .lv [I a.id, I a.frm, I a.to, .r (.lst [] (some 0)), I a.left, I a.right] ∧ a.via = [] ∧ os = [] ∨ f' 4 = .lv [I a.id, I a.frm, I a.to, .sl 0 0 a.via.length 0 none, I a.left, I a.right] ∧ os = [.arr 2 (a.via.map Pt.e) 0 0]) → Q .ret f' (E0 os)) →
      (∀ f', (p.arcs.drop i).find? (fun a => a.id == d) = none → f' 2 = f 2 → f' 4 = f 4 → Q (.exit 0) f' (E0 [])) →
      f 2 = .lv [.r (.lst (p.nodes.map Node.e) none), .r (.lst (p.arcs.map Arc.e) none), .r (.lst (p.faces.map int1) none)] → f 1 = I d → f 6 = I i → f 4 = .lv [I 0, I 0, I 0, .r (.sc (.slice none 0 0)), I 0, I 0] → wp prog x32.loc (callX prog cfg (famT [])) (.loop x32L0) Q f (E0 [])
  | 0, i, f, hk, h1, h2, f2, f1, f6, f4 => by
    apply wp_round x32L0.eq_1
    have hi : ¬ ((i : Int) < (p.arcs.length : Int)) := by omega
    simp only [x32, exists_eq_left', if_true, if_false, ne_eq, forall_const, implies_true, beq_self_eq_true, ws0, ws1, ws2, ws3, ws4, ws5, ws6, ws7, ws8, Nat.reduceAdd, Nat.reduceSub, Nat.reduceMul, Nat.reduceBEq, Nat.reduceEqDiff, Nat.reduceLeDiff, Nat.reduceLT, reduceCtorEq, f2, f1, f6, hi, List.length_map]
    exact h2 _ (by rw [List.drop_eq_nil_of_le (by omega)]; rfl) (by simp only [exists_eq_left', if_true, if_false, ne_eq, forall_const, implies_true, beq_self_eq_true, ws0, ws1, ws2, ws3, ws4, ws5, ws6, ws7, ws8, Nat.reduceAdd, Nat.reduceSub, Nat.reduceMul, Nat.reduceBEq, Nat.reduceEqDiff, Nat.reduceLeDiff, Nat.reduceLT, reduceCtorEq]) (by simp only [exists_eq_left', if_true, if_false, ne_eq, forall_const, implies_true, beq_self_eq_true, ws0, ws1, ws2, ws3, ws4, ws5, ws6, ws7, ws8, Nat.reduceAdd, Nat.reduceSub, Nat.reduceMul, Nat.reduceBEq, Nat.reduceEqDiff, Nat.reduceLeDiff, Nat.reduceLT, reduceCtorEq])
  | k + 1, i, f, hk, h1, h2, f2, f1, f6, f4 => by
    apply wp_round x32L0.eq_1
    have hi : ((i : Int) < (p.arcs.length : Int)) := by omega
    obtain ⟨e, he⟩ : ∃ e, p.arcs[i]? = some e := ⟨p.arcs[i], List.getElem?_eq_getElem (by omega)⟩
    have hm := List.mem_of_getElem? he
    have hw : IntKind.wrap .i64 ((i : Int) + 1) = ((i + 1 : Nat) : Int) := by rw [wrap_id] <;> omega
    have hd : p.arcs.drop i = e :: p.arcs.drop (i + 1) := by
      obtain ⟨h, rfl⟩ := List.getElem?_eq_some_iff.1 he
      exact List.drop_eq_getElem_cons h
    rw [hd] at h1 h2
    have hvl := hv e hm
    obtain ⟨id, frm, to, via, left, right⟩ := e
    by_cases hid : id = d
    · subst hid
      cases via with
      | nil =>
        simp only [x32, exists_eq_left', if_true, if_false, ne_eq, forall_const, implies_true, beq_self_eq_true, ws0, ws1, ws2, ws3, ws4, ws5, ws6, ws7, ws8, Nat.reduceAdd, Nat.reduceSub, Nat.reduceMul, Nat.reduceBEq, Nat.reduceEqDiff, Nat.reduceLeDiff, Nat.reduceLT, reduceCtorEq, f2, f1, f6, f4, hi, List.length_map, map_get he, Arc.e, hw]
        refine h1 _ _ [] (by simp [List.find?_cons]; rfl) ?_ (.inl ⟨?_, rfl, rfl⟩) <;> simp only [exists_eq_left', if_true, if_false, ne_eq, forall_const, implies_true, beq_self_eq_true, ws0, ws1, ws2, ws3, ws4, ws5, ws6, ws7, ws8, Nat.reduceAdd, Nat.reduceSub, Nat.reduceMul, Nat.reduceBEq, Nat.reduceEqDiff, Nat.reduceLeDiff, Nat.reduceLT, reduceCtorEq]
      | cons v0 via =>
        have ha := appendX_copy1 (S := E0 []) (sz := 2) (bytes := 16) (x := v0.e) (xs := via.map Pt.e) (by simp [roomT] at hvl ⊢; omega) (by simp [roomT] at hvl ⊢; omega) (via_ok (v0 :: via)).1 (via_ok (v0 :: via)).2
        simp only [x32, exists_eq_left', if_true, if_false, ne_eq, forall_const, implies_true, beq_self_eq_true, ws0, ws1, ws2, ws3, ws4, ws5, ws6, ws7, ws8, Nat.reduceAdd, Nat.reduceSub, Nat.reduceMul, Nat.reduceBEq, Nat.reduceEqDiff, Nat.reduceLeDiff, Nat.reduceLT, reduceCtorEq, f2, f1, f6, f4, hi, List.length_map, map_get he, Arc.e, hw, ha]
        refine h1 _ _ _ (by simp [List.find?_cons]; rfl) ?_ (.inr ⟨?_, rfl⟩) <;> simp only [exists_eq_left', if_true, if_false, ne_eq, forall_const, implies_true, beq_self_eq_true, ws0, ws1, ws2, ws3, ws4, ws5, ws6, ws7, ws8, Nat.reduceAdd, Nat.reduceSub, Nat.reduceMul, Nat.reduceBEq, Nat.reduceEqDiff, Nat.reduceLeDiff, Nat.reduceLT, reduceCtorEq]
    · have hid' : (id == d) = false := by simpa using hid
      simp only [x32, exists_eq_left', if_true, if_false, ne_eq, forall_const, implies_true, beq_self_eq_true, ws0, ws1, ws2, ws3, ws4, ws5, ws6, ws7, ws8, Nat.reduceAdd, Nat.reduceSub, Nat.reduceMul, Nat.reduceBEq, Nat.reduceEqDiff, Nat.reduceLeDiff, Nat.reduceLT, reduceCtorEq, f2, f1, f6, f4, hi, List.length_map, map_get he, Arc.e, hw, hid']
      refine loop32 (d := d) hp hv Q k (i + 1) _ (by omega) (fun f' a os ha => h1 f' a os ?_) (fun f' ha e2 e4 => h2 f' ?_ ?_ ?_) ?_ ?_ ?_ ?_
      · simp [List.find?_cons, hid', ha]
      · simp [List.find?_cons, hid', ha]
      · rw [e2]; simp only [exists_eq_left', if_true, if_false, ne_eq, forall_const, implies_true, beq_self_eq_true, ws0, ws1, ws2, ws3, ws4, ws5, ws6, ws7, ws8, Nat.reduceAdd, Nat.reduceSub, Nat.reduceMul, Nat.reduceBEq, Nat.reduceEqDiff, Nat.reduceLeDiff, Nat.reduceLT, reduceCtorEq]
      · rw [e4]; simp only [exists_eq_left', if_true, if_false, ne_eq, forall_const, implies_true, beq_self_eq_true, ws0, ws1, ws2, ws3, ws4, ws5, ws6, ws7, ws8, Nat.reduceAdd, Nat.reduceSub, Nat.reduceMul, Nat.reduceBEq, Nat.reduceEqDiff, Nat.reduceLeDiff, Nat.reduceLT, reduceCtorEq]
      all_goals simp only [exists_eq_left', if_true, if_false, ne_eq, forall_const, implies_true, beq_self_eq_true, ws0, ws1, ws2, ws3, ws4, ws5, ws6, ws7, ws8, Nat.reduceAdd, Nat.reduceSub, Nat.reduceMul, Nat.reduceBEq, Nat.reduceEqDiff, Nat.reduceLeDiff, Nat.reduceLT, reduceCtorEq, f1, f2, f4]

theorem t32 {p : Plan} {d : Int} (hp : p.arcs.length ≤ 1048576) (hv : ∀ a, a ∈ p.arcs → a.via.length ≤ 1048576) : callL prog cfg (famT []) 32 [p.e, I d] (E0 []) = some (arcR (p.arcs.find? fun a => a.id == d), E0 [], none) := by
  refine callL_wp cx32 (ax := [p.e, I d]) (S1 := E0 []) rfl rfl ?_
  simp only [x32, x32B, Plan.e, exists_eq_left', if_true, if_false, ne_eq, forall_const, implies_true, beq_self_eq_true, ws0, ws1, ws2, ws3, ws4, ws5, ws6, ws7, ws8, Nat.reduceAdd, Nat.reduceSub, Nat.reduceMul, Nat.reduceBEq, Nat.reduceEqDiff, Nat.reduceLeDiff, Nat.reduceLT, reduceCtorEq]
  refine loop32 (d := d) hp hv _ p.arcs.length 0 _ (by omega) (fun f' a os hf f5 f4 => ?_) (fun f' hf e2 e4 => ?_) ?_ ?_ ?_ ?_
  · rw [List.drop_zero] at hf
    rcases f4 with ⟨f4, h1, rfl⟩ | ⟨f4, rfl⟩
    · simp only [exists_eq_left', if_true, if_false, ne_eq, forall_const, implies_true, beq_self_eq_true, ws0, ws1, ws2, ws3, ws4, ws5, ws6, ws7, ws8, Nat.reduceAdd, Nat.reduceSub, Nat.reduceMul, Nat.reduceBEq, Nat.reduceEqDiff, Nat.reduceLeDiff, Nat.reduceLT, reduceCtorEq, f5, f4, hf, arcR, Arc.v, h1]
    · have hl : a.via.length ≤ (a.via.map Pt.e).length := by simp
      have ht : (a.via.map Pt.e).take a.via.length = a.via.map Pt.e := by rw [List.take_of_length_le (by simp)]
      simp only [exists_eq_left', if_true, if_false, ne_eq, forall_const, implies_true, beq_self_eq_true, ws0, ws1, ws2, ws3, ws4, ws5, ws6, ws7, ws8, Nat.reduceAdd, Nat.reduceSub, Nat.reduceMul, Nat.reduceBEq, Nat.reduceEqDiff, Nat.reduceLeDiff, Nat.reduceLT, reduceCtorEq, f5, f4, hf, arcR, Arc.v, hl, ht]
  · rw [List.drop_zero] at hf
    simp only [exists_eq_left', if_true, if_false, ne_eq, forall_const, implies_true, beq_self_eq_true, ws0, ws1, ws2, ws3, ws4, ws5, ws6, ws7, ws8, Nat.reduceAdd, Nat.reduceSub, Nat.reduceMul, Nat.reduceBEq, Nat.reduceEqDiff, Nat.reduceLeDiff, Nat.reduceLT, reduceCtorEq] at e2 e4
    simp only [exists_eq_left', if_true, if_false, ne_eq, forall_const, implies_true, beq_self_eq_true, ws0, ws1, ws2, ws3, ws4, ws5, ws6, ws7, ws8, Nat.reduceAdd, Nat.reduceSub, Nat.reduceMul, Nat.reduceBEq, Nat.reduceEqDiff, Nat.reduceLeDiff, Nat.reduceLT, reduceCtorEq, e2, e4, hf, arcR, arc0]
  all_goals simp only [exists_eq_left', if_true, if_false, ne_eq, forall_const, implies_true, beq_self_eq_true, ws0, ws1, ws2, ws3, ws4, ws5, ws6, ws7, ws8, Nat.reduceAdd, Nat.reduceSub, Nat.reduceMul, Nat.reduceBEq, Nat.reduceEqDiff, Nat.reduceLeDiff, Nat.reduceLT, reduceCtorEq]
end Go.TL
/- walk.Start, walk.Side, the reference's, and the law WalkDarts. -/
namespace Go.TL
open Go.Proofs.Tryz
set_option maxRecDepth 10000

theorem flat_arcR (o : Option Arc) : flatT (arcR o) = true := by cases o <;> rfl
noncomputable def fam31 : Fam := famPI 31 fun p d => arcR (findArc p (pos64 d))
theorem good31 : fam31.Good prog := famPI_good fun p d hp => good_of (fams := []) sound (by simp) (t31 (by have := hp.al; omega)) rfl (flat_arcR _)
noncomputable def fam32 : Fam := famPI 32 fun p d => arcR (p.arcs.find? fun a => a.id == d)
theorem good32 : fam32.Good prog := famPI_good fun p d hp => good_of (fams := []) sound (by simp) (t32 hp.al hp.vl) rfl (flat_arcR _)

def startW (p : Plan) (d : Int) : Int := match findArc p (pos64 d) with | some a => if d < 0 then a.to else a.frm | none => 0
def startR (p : Plan) (d : Int) : Int := if d > 0 then (match p.arcs.find? (fun a => a.id == d) with | some a => a.frm | none => 0) else if neg64 d > 0 then (match p.arcs.find? (fun a => a.id == neg64 d) with | some a => a.to | none => 0) else 0
def sideW (p : Plan) (d : Int) : Int := match findArc p (pos64 d) with | some a => if d < 0 then a.right else a.left | none => 0
def sideR (p : Plan) (d : Int) : Int := if d > 0 then (match p.arcs.find? (fun a => a.id == d) with | some a => a.left | none => 0) else if neg64 d > 0 then (match p.arcs.find? (fun a => a.id == neg64 d) with | some a => a.right | none => 0) else 0

theorem use31 {fams : List Fam} {p : Plan} (hp : p.Ok) (d : Int) (os : List TO) : callX prog cfg (famT (fam31 :: fams)) 31 [p.e, I d] (E0 os) = some (arcR (findArc p (pos64 d)), E0 os, none) :=
  callX_fam rfl (famLook_hit rfl (famPI_val hp d))
theorem use32 {fams : List Fam} {p : Plan} (hp : p.Ok) (d : Int) (os : List TO) : callX prog cfg (famT (fam32 :: fams)) 32 [p.e, I d] (E0 os) = some (arcR (p.arcs.find? fun a => a.id == d), E0 os, none) :=
  callX_fam rfl (famLook_hit rfl (famPI_val hp d))

theorem t10 {p : Plan} {d : Int} (hp : p.Ok) : callL prog cfg (famT [fam31]) 10 [p.e, I d] (E0 []) = some (I (startW p d), E0 [], none) := by
  have h31 := use31 (fams := []) hp d
  refine callL_wp cx10 (ax := [p.e, I d]) (S1 := E0 []) rfl rfl ?_
  simp only [Plan.e] at h31 ⊢
  simp only [x10, x10B, exists_eq_left', if_true, if_false, ne_eq, forall_const, implies_true, beq_self_eq_true, ws0, ws1, ws2, ws3, ws4, ws5, ws6, ws7, ws8, Nat.reduceAdd, Nat.reduceSub, Nat.reduceMul, Nat.reduceBEq, Nat.reduceEqDiff, Nat.reduceLeDiff, Nat.reduceLT, reduceCtorEq, h31]
  cases hf : findArc p (pos64 d) with
  | none => simp only [arcR, arc0, startW, hf, exists_eq_left', if_true, if_false, ne_eq, forall_const, implies_true, beq_self_eq_true, ws0, ws1, ws2, ws3, ws4, ws5, ws6, ws7, ws8, Nat.reduceAdd, Nat.reduceSub, Nat.reduceMul, Nat.reduceBEq, Nat.reduceEqDiff, Nat.reduceLeDiff, Nat.reduceLT, reduceCtorEq]
  | some a =>
    simp only [arcR, Arc.v, startW, hf, exists_eq_left', if_true, if_false, ne_eq, forall_const, implies_true, beq_self_eq_true, ws0, ws1, ws2, ws3, ws4, ws5, ws6, ws7, ws8, Nat.reduceAdd, Nat.reduceSub, Nat.reduceMul, Nat.reduceBEq, Nat.reduceEqDiff, Nat.reduceLeDiff, Nat.reduceLT, reduceCtorEq]
    constructor <;> intro h <;> simp only [h, if_true, if_false]
theorem t12 {p : Plan} {d : Int} (hp : p.Ok) : callL prog cfg (famT [fam31]) 12 [p.e, I d] (E0 []) = some (I (sideW p d), E0 [], none) := by
  have h31 := use31 (fams := []) hp d
  refine callL_wp cx12 (ax := [p.e, I d]) (S1 := E0 []) rfl rfl ?_
  simp only [Plan.e] at h31 ⊢
  simp only [x12, x12B, exists_eq_left', if_true, if_false, ne_eq, forall_const, implies_true, beq_self_eq_true, ws0, ws1, ws2, ws3, ws4, ws5, ws6, ws7, ws8, Nat.reduceAdd, Nat.reduceSub, Nat.reduceMul, Nat.reduceBEq, Nat.reduceEqDiff, Nat.reduceLeDiff, Nat.reduceLT, reduceCtorEq, h31]
  cases hf : findArc p (pos64 d) with
  | none => simp only [arcR, arc0, sideW, hf, exists_eq_left', if_true, if_false, ne_eq, forall_const, implies_true, beq_self_eq_true, ws0, ws1, ws2, ws3, ws4, ws5, ws6, ws7, ws8, Nat.reduceAdd, Nat.reduceSub, Nat.reduceMul, Nat.reduceBEq, Nat.reduceEqDiff, Nat.reduceLeDiff, Nat.reduceLT, reduceCtorEq]
  | some a =>
    simp only [arcR, Arc.v, sideW, hf, exists_eq_left', if_true, if_false, ne_eq, forall_const, implies_true, beq_self_eq_true, ws0, ws1, ws2, ws3, ws4, ws5, ws6, ws7, ws8, Nat.reduceAdd, Nat.reduceSub, Nat.reduceMul, Nat.reduceBEq, Nat.reduceEqDiff, Nat.reduceLeDiff, Nat.reduceLT, reduceCtorEq]
    constructor <;> intro h <;> simp only [h, if_true, if_false]
theorem t11 {p : Plan} {d : Int} (hp : p.Ok) : callL prog cfg (famT [fam32]) 11 [p.e, I d] (E0 []) = some (I (startR p d), E0 [], none) := by
  have h32 := fun d => use32 (fams := []) hp d
  refine callL_wp cx11 (ax := [p.e, I d]) (S1 := E0 []) rfl rfl ?_
  simp only [Plan.e] at h32 ⊢
  simp only [x11, x11B, exists_eq_left', if_true, if_false, ne_eq, forall_const, implies_true, beq_self_eq_true, ws0, ws1, ws2, ws3, ws4, ws5, ws6, ws7, ws8, Nat.reduceAdd, Nat.reduceSub, Nat.reduceMul, Nat.reduceBEq, Nat.reduceEqDiff, Nat.reduceLeDiff, Nat.reduceLT, reduceCtorEq, h32]
  refine ⟨fun h => ?_, fun h => ⟨fun h2 => ?_, fun h2 => ?_⟩⟩
  · cases hf : p.arcs.find? (fun a => a.id == d) <;> simp only [arcR, Arc.v, arc0, startR, h, hf, exists_eq_left', if_true, if_false, ne_eq, forall_const, implies_true, beq_self_eq_true, ws0, ws1, ws2, ws3, ws4, ws5, ws6, ws7, ws8, Nat.reduceAdd, Nat.reduceSub, Nat.reduceMul, Nat.reduceBEq, Nat.reduceEqDiff, Nat.reduceLeDiff, Nat.reduceLT, reduceCtorEq]
  · cases hf : p.arcs.find? (fun a => a.id == neg64 d) <;> simp only [neg64] at hf h2 <;> simp only [arcR, Arc.v, arc0, startR, neg64, h, h2, hf, exists_eq_left', if_true, if_false, ne_eq, forall_const, implies_true, beq_self_eq_true, ws0, ws1, ws2, ws3, ws4, ws5, ws6, ws7, ws8, Nat.reduceAdd, Nat.reduceSub, Nat.reduceMul, Nat.reduceBEq, Nat.reduceEqDiff, Nat.reduceLeDiff, Nat.reduceLT, reduceCtorEq]
  · simp only [startR, neg64, h, h2, exists_eq_left', if_true, if_false, ne_eq, forall_const, implies_true, beq_self_eq_true, ws0, ws1, ws2, ws3, ws4, ws5, ws6, ws7, ws8, Nat.reduceAdd, Nat.reduceSub, Nat.reduceMul, Nat.reduceBEq, Nat.reduceEqDiff, Nat.reduceLeDiff, Nat.reduceLT, reduceCtorEq]
theorem t13 {p : Plan} {d : Int} (hp : p.Ok) : callL prog cfg (famT [fam32]) 13 [p.e, I d] (E0 []) = some (I (sideR p d), E0 [], none) := by
  have h32 := fun d => use32 (fams := []) hp d
  refine callL_wp cx13 (ax := [p.e, I d]) (S1 := E0 []) rfl rfl ?_
  simp only [Plan.e] at h32 ⊢
  simp only [x13, x13B, exists_eq_left', if_true, if_false, ne_eq, forall_const, implies_true, beq_self_eq_true, ws0, ws1, ws2, ws3, ws4, ws5, ws6, ws7, ws8, Nat.reduceAdd, Nat.reduceSub, Nat.reduceMul, Nat.reduceBEq, Nat.reduceEqDiff, Nat.reduceLeDiff, Nat.reduceLT, reduceCtorEq, h32]
  refine ⟨fun h => ?_, fun h => ⟨fun h2 => ?_, fun h2 => ?_⟩⟩
  · cases hf : p.arcs.find? (fun a => a.id == d) <;> simp only [arcR, Arc.v, arc0, sideR, h, hf, exists_eq_left', if_true, if_false, ne_eq, forall_const, implies_true, beq_self_eq_true, ws0, ws1, ws2, ws3, ws4, ws5, ws6, ws7, ws8, Nat.reduceAdd, Nat.reduceSub, Nat.reduceMul, Nat.reduceBEq, Nat.reduceEqDiff, Nat.reduceLeDiff, Nat.reduceLT, reduceCtorEq]
  · cases hf : p.arcs.find? (fun a => a.id == neg64 d) <;> simp only [neg64] at hf h2 <;> simp only [arcR, Arc.v, arc0, sideR, neg64, h, h2, hf, exists_eq_left', if_true, if_false, ne_eq, forall_const, implies_true, beq_self_eq_true, ws0, ws1, ws2, ws3, ws4, ws5, ws6, ws7, ws8, Nat.reduceAdd, Nat.reduceSub, Nat.reduceMul, Nat.reduceBEq, Nat.reduceEqDiff, Nat.reduceLeDiff, Nat.reduceLT, reduceCtorEq]
  · simp only [sideR, neg64, h, h2, exists_eq_left', if_true, if_false, ne_eq, forall_const, implies_true, beq_self_eq_true, ws0, ws1, ws2, ws3, ws4, ws5, ws6, ws7, ws8, Nat.reduceAdd, Nat.reduceSub, Nat.reduceMul, Nat.reduceBEq, Nat.reduceEqDiff, Nat.reduceLeDiff, Nat.reduceLT, reduceCtorEq]

theorem start_eq (p : Plan) (d : Int) : startW p d = startR p d := by
  unfold startW startR findArc pos64
  by_cases h : d > 0
  · have h1 : ¬ d < 0 := by omega
    have h2 : ¬ d ≤ 0 := by omega
    simp only [h, h1, h2, if_true, if_false]
  · by_cases h1 : d < 0
    · simp only [h, h1, if_true, if_false]
      by_cases h3 : neg64 d > 0
      · have h2 : ¬ neg64 d ≤ 0 := by omega
        simp only [h3, h2, if_true, if_false]
      · have h2 : neg64 d ≤ 0 := by omega
        simp only [h3, h2, if_true, if_false]
    · have : d = 0 := by omega
      subst this
      have e : neg64 0 = 0 := wrap_id (by omega) (by omega)
      simp [e]
theorem side_eq (p : Plan) (d : Int) : sideW p d = sideR p d := by
  unfold sideW sideR findArc pos64
  by_cases h : d > 0
  · have h1 : ¬ d < 0 := by omega
    have h2 : ¬ d ≤ 0 := by omega
    simp only [h, h1, h2, if_true, if_false]
  · by_cases h1 : d < 0
    · simp only [h, h1, if_true, if_false]
      by_cases h3 : neg64 d > 0
      · have h2 : ¬ neg64 d ≤ 0 := by omega
        simp only [h3, h2, if_true, if_false]
      · have h2 : neg64 d ≤ 0 := by omega
        simp only [h3, h2, if_true, if_false]
    · have : d = 0 := by omega
      subst this
      have e : neg64 0 = 0 := wrap_id (by omega) (by omega)
      simp [e]

theorem all1 {α : Type} {p : α → Prop} {a : α} (h : p a) : ∀ x, x ∈ [a] → p x := fun x hx => by rw [List.mem_singleton] at hx; subst hx; exact h
noncomputable def fam10 : Fam := famPI 10 fun p d => I (startW p d)
theorem good10 : fam10.Good prog := famPI_good fun p d hp => good_of (fams := [fam31]) sound (all1 good31) (t10 hp) rfl rfl
noncomputable def fam11 : Fam := famPI 11 fun p d => I (startR p d)
theorem good11 : fam11.Good prog := famPI_good fun p d hp => good_of (fams := [fam32]) sound (all1 good32) (t11 hp) rfl rfl
noncomputable def fam12 : Fam := famPI 12 fun p d => I (sideW p d)
theorem good12 : fam12.Good prog := famPI_good fun p d hp => good_of (fams := [fam31]) sound (all1 good31) (t12 hp) rfl rfl
noncomputable def fam13 : Fam := famPI 13 fun p d => I (sideR p d)
theorem good13 : fam13.Good prog := famPI_good fun p d hp => good_of (fams := [fam32]) sound (all1 good32) (t13 hp) rfl rfl
noncomputable def famA : Fam := mkFam (α := Unit) 14 (fun _ => []) (fun _ => B true)
theorem goodA : famA.Good prog := mkFam_good fun _ => g_awake
theorem famA_val : famA.val [] = some (B true) := mkFam_val (f := 14) (enc := fun _ : Unit => []) (val := fun _ => B true) (fun _ _ _ => rfl) ()

theorem t3 {p : Plan} {d : Int} (hp : p.Ok) : callL prog cfg (famT [fam10, fam11, fam12, fam13, famA]) 3 [p.e, I d] (E0 []) = some (B true, E0 [], none) := by
  have h10 : callX prog cfg (famT [fam10, fam11, fam12, fam13, famA]) 10 [p.e, I d] (E0 []) = some (I (startW p d), E0 [], none) := callX_fam rfl (famLook_hit rfl (famPI_val hp d))
  have h11 : callX prog cfg (famT [fam10, fam11, fam12, fam13, famA]) 11 [p.e, I d] (E0 []) = some (I (startR p d), E0 [], none) := callX_fam rfl (by rw [famLook_miss rfl]; exact famLook_hit rfl (famPI_val hp d))
  have h12 : callX prog cfg (famT [fam10, fam11, fam12, fam13, famA]) 12 [p.e, I d] (E0 []) = some (I (sideW p d), E0 [], none) := callX_fam rfl (by rw [famLook_miss rfl, famLook_miss rfl]; exact famLook_hit rfl (famPI_val hp d))
  have h13 : callX prog cfg (famT [fam10, fam11, fam12, fam13, famA]) 13 [p.e, I d] (E0 []) = some (I (sideR p d), E0 [], none) := callX_fam rfl (by rw [famLook_miss rfl, famLook_miss rfl, famLook_miss rfl]; exact famLook_hit rfl (famPI_val hp d))
  have h14 : callX prog cfg (famT [fam10, fam11, fam12, fam13, famA]) 14 [] (E0 []) = some (B true, E0 [], none) := callX_fam rfl (by rw [famLook_miss rfl, famLook_miss rfl, famLook_miss rfl, famLook_miss rfl]; exact famLook_hit rfl famA_val)
  refine callL_wp cx3 (ax := [p.e, I d]) (S1 := E0 []) rfl rfl ?_
  simp only [Plan.e] at h10 h11 h12 h13 ⊢
  simp only [start_eq] at h10
  simp only [side_eq] at h12
  simp only [x3, x3B, exists_eq_left', if_true, if_false, ne_eq, forall_const, implies_true, beq_self_eq_true, ws0, ws1, ws2, ws3, ws4, ws5, ws6, ws7, ws8, Nat.reduceAdd, Nat.reduceSub, Nat.reduceMul, Nat.reduceBEq, Nat.reduceEqDiff, Nat.reduceLeDiff, Nat.reduceLT, reduceCtorEq, h10, h11, h12, h13, h14]
end Go.TL
