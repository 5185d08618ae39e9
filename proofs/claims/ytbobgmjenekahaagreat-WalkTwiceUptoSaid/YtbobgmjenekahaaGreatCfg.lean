/- What the interpreter is told of each function (printed by program), and that the program keeps to it. -/
import Derived.Test.YtbobgmjenekahaaGreatTD
import Derived.Test.YtbobgmjenekahaaGreatProg
import Derived.KernelRfl
set_option linter.unusedVariables false
set_option linter.unusedSimpArgs false
namespace Go.TL
set_option maxRecDepth 1000000
def fi3 : FnI := ⟨[2], false, false, [(1, [(0, 3), (2, 3), (8, 11), (10, 11)])]⟩
def fi4 : FnI := ⟨[3], false, false, [(3, [(0, 3), (2, 3), (8, 11), (10, 11)])]⟩
def fi5 : FnI := ⟨[1], false, false, []⟩
def fi6 : FnI := ⟨[2], false, false, [(3, [(0, 3), (2, 3)])]⟩
def fi7 : FnI := ⟨[1], false, false, [(13, [(0, 2), (0, 4), (0, 6)])]⟩
def fi8 : FnI := ⟨[1], false, false, [(14, [(2, 9), (3, 9), (5, 9), (6, 9), (2, 10), (3, 10), (5, 10), (6, 10), (2, 15), (3, 15), (5, 15), (6, 15), (9, 15), (10, 15), (2, 16), (3, 16), (5, 16), (6, 16), (9, 16), (10, 16), (2, 17), (3, 17), (5, 17), (6, 17), (9, 17), (10, 17), (2, 19), (3, 19), (5, 19), (6, 19), (2, 20), (3, 20), (5, 20), (6, 20)]), (15, [(16, 20), (19, 20)])]⟩
def fi9 : FnI := ⟨[1], false, false, [(11, [(0, 3), (0, 4)])]⟩
def fi10 : FnI := ⟨[2, 5], false, false, []⟩
def fi11 : FnI := ⟨[2, 5, 7], false, false, []⟩
def fi12 : FnI := ⟨[2, 5], false, false, []⟩
def fi13 : FnI := ⟨[2, 5, 7], false, false, []⟩
def fi14 : FnI := ⟨[1], false, false, [(4, [(8, 9), (8, 10), (9, 10)]), (6, [(25, 27), (26, 27), (31, 32)])]⟩
def fi15 : FnI := ⟨[1], false, false, []⟩
def fi16 : FnI := ⟨[], false, false, [(1, [(1, 3)]), (6, [(2, 6), (3, 6), (2, 7), (3, 7)])]⟩
def fi17 : FnI := ⟨[2], false, false, []⟩
def fi18 : FnI := ⟨[2, 5], false, false, [(16, [(1, 4), (1, 5)]), (18, [(1, 3)]), (26, [(1, 4), (1, 5), (1, 8), (4, 8), (5, 8), (1, 9), (4, 9), (5, 9)])]⟩
def fi19 : FnI := ⟨[2, 5], false, false, [(4, [(0, 1), (0, 4)])]⟩
def fi20 : FnI := ⟨[2], false, false, [(3, [(0, 1), (0, 4)])]⟩
def fi21 : FnI := ⟨[1], false, false, []⟩
def fi22 : FnI := ⟨[1, 7, 13], false, false, [(4, [(0, 1)]), (8, [(0, 2)]), (12, [(0, 6), (0, 10), (6, 10), (0, 12), (0, 13)]), (19, [(2, 4)]), (22, [(0, 1)])]⟩
def fi23 : FnI := ⟨[1], false, false, []⟩
def fi24 : FnI := ⟨[], false, false, [(1, [(1, 3)]), (6, [(2, 6), (3, 6), (2, 7), (3, 7)])]⟩
def fi25 : FnI := ⟨[2, 8], false, false, [(10, [(0, 2)]), (15, [(4, 9), (6, 9), (4, 11), (6, 11), (4, 15), (6, 15), (9, 15), (11, 15), (4, 17), (6, 17), (9, 17), (11, 17), (4, 21), (6, 21), (9, 21), (11, 21), (15, 21), (17, 21), (4, 23), (6, 23), (9, 23), (11, 23), (15, 23), (17, 23)])]⟩
def fi26 : FnI := ⟨[2], false, false, [(7, [(0, 3), (0, 4)]), (9, [(0, 3), (0, 4)]), (13, [(4, 9), (6, 9), (4, 11), (6, 11), (4, 16), (6, 16), (9, 16), (11, 16), (4, 18), (6, 18), (9, 18), (11, 18), (4, 22), (6, 22), (9, 22), (11, 22), (16, 22), (18, 22), (4, 24), (6, 24), (9, 24), (11, 24), (16, 24), (18, 24)])]⟩
def fi27 : FnI := ⟨[1, 10, 13], false, false, [(4, [(0, 1)]), (8, [(0, 2), (0, 4), (2, 4)]), (15, [(2, 6), (3, 6)]), (20, [(1, 4), (2, 4), (1, 5), (2, 5), (1, 7), (2, 7), (4, 7), (5, 7)])]⟩
def fi28 : FnI := ⟨[1], false, false, [(4, [(1, 4), (2, 4), (1, 5), (2, 5), (1, 7), (2, 7), (4, 7), (5, 7), (1, 8), (2, 8), (4, 8), (5, 8), (7, 8), (1, 9), (2, 9), (4, 9), (5, 9), (7, 9)])]⟩
def fi29 : FnI := ⟨[2], false, false, []⟩
def fi31 : FnI := ⟨[2, 4], false, false, []⟩
def fi32 : FnI := ⟨[2, 4, 7], false, false, [(6, [(0, 2)])]⟩
def fi33 : FnI := ⟨[0], false, false, [(1, [(7, 13)])]⟩
def fi34 : FnI := ⟨[1], false, false, [(12, [(0, 2), (0, 4), (0, 5)]), (18, [(0, 2), (0, 4), (0, 6), (10, 12), (10, 14), (10, 16)])]⟩
def fi35 : FnI := ⟨[2, 9, 14], false, false, [(1, [(0, 6), (2, 6)]), (8, [(0, 2)]), (11, [(2, 4), (2, 5)]), (13, [(2, 6), (2, 8), (2, 9)])]⟩
def fi36 : FnI := ⟨[2, 4], false, false, []⟩
def fi37 : FnI := ⟨[2, 4], false, false, []⟩
def fi38 : FnI := ⟨[3, 4, 5], false, false, [(1, [(0, 1), (0, 2), (1, 2), (7, 8), (12, 13)]), (3, [(0, 1), (0, 3), (1, 3), (2, 3), (0, 4), (1, 4), (2, 4), (3, 4)]), (4, [(8, 9), (8, 10), (9, 10), (8, 11), (9, 11), (10, 11)])]⟩
def fi39 : FnI := ⟨[], false, false, [(4, [(3, 7)])]⟩
def fi40 : FnI := ⟨[2, 5], false, false, []⟩
def fi41 : FnI := ⟨[5, 7], false, false, [(1, [(0, 2)]), (5, [(1, 3), (1, 4)]), (10, [(1, 3), (1, 4)])]⟩
def fi42 : FnI := ⟨[], true, false, []⟩
def fi44 : FnI := ⟨[1], false, false, [(5, [(0, 2), (0, 4), (0, 6)])]⟩
def fi45 : FnI := ⟨[1], false, false, []⟩
def fi47 : FnI := ⟨[], false, false, [(2, [(1, 3)]), (7, [(2, 6), (3, 6), (2, 8), (3, 8), (2, 9), (3, 9)])]⟩
def fi48 : FnI := ⟨[2, 6, 8, 10], false, false, [(2, [(0, 2)]), (3, [(0, 2)])]⟩
def fi49 : FnI := ⟨[2], false, false, []⟩
def fi50 : FnI := ⟨[], false, false, [(2, [(0, 2), (0, 3), (2, 3), (0, 5), (2, 5), (0, 6)])]⟩
def fi51 : FnI := ⟨[1], false, false, [(15, [(2, 10), (4, 10), (6, 10), (7, 10), (2, 12), (4, 12), (6, 12), (7, 12), (2, 14), (4, 14), (6, 14), (7, 14)])]⟩
def fi52 : FnI := ⟨[], true, false, []⟩
def fi53 : FnI := ⟨[2], false, false, [(1, [(1, 2)])]⟩
def fi54 : FnI := ⟨[1], false, false, []⟩
def fi55 : FnI := ⟨[], false, false, [(4, [(3, 7), (4, 7), (3, 8), (4, 8)])]⟩
def fi56 : FnI := ⟨[2], false, true, []⟩
def fi57 : FnI := ⟨[1], false, false, [(1, [(0, 2), (1, 2), (0, 6), (1, 6), (2, 6), (3, 6), (4, 6)])]⟩
def fi58 : FnI := ⟨[1], false, false, [(7, [(1, 7), (3, 7), (5, 7), (1, 9), (3, 9), (5, 9), (1, 11), (3, 11), (5, 11)])]⟩
def fi59 : FnI := ⟨[2, 3, 6, 8], false, false, [(1, [(0, 2)]), (2, [(0, 2)]), (3, [(1, 4), (2, 4), (1, 7), (2, 7), (4, 7), (5, 7), (1, 8), (2, 8), (4, 8), (5, 8)])]⟩
def fi60 : FnI := ⟨[2], false, false, []⟩
def fi61 : FnI := ⟨[1], false, false, [(5, [(0, 3), (0, 4)]), (10, [(2, 8), (5, 8), (2, 11), (5, 11), (16, 20), (17, 20), (16, 21), (17, 21), (28, 34), (31, 34), (28, 37), (31, 37), (40, 43), (40, 44), (40, 47), (43, 47), (44, 47), (40, 48), (43, 48), (44, 48)])]⟩
def fi62 : FnI := ⟨[2, 4], false, false, []⟩
def fi63 : FnI := ⟨[], true, false, []⟩
def fi64 : FnI := ⟨[3, 4], false, false, [(1, [(1, 3), (1, 5), (3, 5)]), (3, [(1, 3), (1, 5), (3, 5)])]⟩
def fi65 : FnI := ⟨[3, 4, 5, 7, 8], false, false, [(1, [(0, 1), (0, 2), (1, 2), (7, 8), (12, 13)]), (3, [(0, 1), (0, 3), (1, 3), (2, 3), (0, 4), (1, 4), (2, 4), (3, 4)]), (4, [(0, 2), (1, 2)]), (5, [(0, 2), (1, 2)]), (6, [(0, 1)])]⟩
def fi67 : FnI := ⟨[2, 3], false, false, [(1, [(1, 3), (1, 6), (3, 6), (1, 8), (3, 8), (6, 8)])]⟩
def fi68 : FnI := ⟨[4, 5, 6, 7], false, false, [(1, [(1, 3), (1, 6), (3, 6), (1, 8), (3, 8), (6, 8), (1, 12), (3, 12), (6, 12), (8, 12), (1, 14), (3, 14), (6, 14), (8, 14), (12, 14), (1, 17), (3, 17), (6, 17), (8, 17), (12, 17), (14, 17), (1, 19), (3, 19), (6, 19), (8, 19), (12, 19), (14, 19), (17, 19)])]⟩
def fi69 : FnI := ⟨[], true, false, []⟩
def fi70 : FnI := ⟨[2, 4], false, false, []⟩
def fi72 : FnI := ⟨[], true, false, []⟩
def fi74 : FnI := ⟨[1], false, false, []⟩
def fi75 : FnI := ⟨[], false, false, [(4, [(6, 10), (7, 10), (6, 11), (7, 11)])]⟩
def fi76 : FnI := ⟨[1], false, false, []⟩
def fi77 : FnI := ⟨[1, 5], false, false, []⟩
def fi78 : FnI := ⟨[], true, false, []⟩
def fi79 : FnI := ⟨[2], false, false, [(1, [(0, 2), (6, 8)])]⟩
def fi80 : FnI := ⟨[2], false, false, [(1, [(0, 2), (6, 8)])]⟩
def fi81 : FnI := ⟨[1, 4, 7, 9], false, false, [(4, [(1, 3)]), (12, [(1, 3), (6, 8)]), (17, [(3, 7)]), (18, [(0, 1)])]⟩
def fi82 : FnI := ⟨[], true, false, [(17, [(6, 10), (7, 10), (6, 11), (7, 11)])]⟩
def fi84 : FnI := ⟨[2, 4], false, false, []⟩
def fi85 : FnI := ⟨[2, 6], false, false, [(4, [(0, 1)])]⟩
def fi86 : FnI := ⟨[1], false, false, []⟩
def fi87 : FnI := ⟨[1], false, false, []⟩
def fi88 : FnI := ⟨[1], false, false, [(5, [(0, 2), (0, 4), (0, 5)]), (9, [(2, 8), (4, 8), (5, 8), (2, 12), (4, 12), (5, 12), (8, 12), (2, 13), (4, 13), (5, 13), (8, 13), (2, 17), (4, 17), (5, 17), (8, 17), (12, 17), (13, 17), (2, 18), (4, 18), (5, 18), (8, 18), (12, 18), (13, 18)])]⟩
def fi89 : FnI := ⟨[2, 3, 6], false, false, [(5, [(6, 8), (13, 15), (21, 23)]), (6, [(4, 6), (4, 8), (6, 8)]), (8, [(1, 3), (8, 11)])]⟩
def fi90 : FnI := ⟨[2, 3], false, false, [(1, [(1, 3), (1, 5), (3, 5), (1, 7), (3, 7), (5, 7)]), (2, [(1, 3)]), (4, [(5, 7), (14, 17)])]⟩
def fi91 : FnI := ⟨[3, 4, 5, 9], false, false, [(1, [(1, 3), (1, 5), (3, 5), (1, 7), (3, 7), (5, 7)]), (8, [(1, 3), (7, 9), (14, 16), (14, 18), (16, 18), (23, 25), (23, 27), (25, 27)])]⟩
def fi92 : FnI := ⟨[], true, false, []⟩
def fi93 : FnI := ⟨[2], false, false, [(1, [(1, 2)])]⟩
def fi94 : FnI := ⟨[], true, false, []⟩
def fi95 : FnI := ⟨[4], false, false, []⟩
def fi96 : FnI := ⟨[2, 3, 4], false, false, [(1, [(1, 3), (1, 6), (3, 6), (1, 8), (3, 8), (6, 8)])]⟩
def fi97 : FnI := ⟨[1], false, false, []⟩
def fi98 : FnI := ⟨[2, 3], false, false, [(1, [(1, 3), (1, 6), (3, 6), (1, 8), (3, 8), (6, 8)])]⟩
def fi99 : FnI := ⟨[1], false, false, []⟩
def fi101 : FnI := ⟨[1], false, false, []⟩
def fi102 : FnI := ⟨[1], false, false, []⟩
def fi103 : FnI := ⟨[], true, false, []⟩
def fi104 : FnI := ⟨[2], false, false, [(1, [(1, 2)])]⟩
def fi105 : FnI := ⟨[], true, false, []⟩
def fi106 : FnI := ⟨[], true, false, []⟩
def fi107 : FnI := ⟨[2], false, false, [(1, [(0, 2)])]⟩
def fi108 : FnI := ⟨[1, 5, 8], false, true, [(5, [(2, 4)]), (11, [(2, 6), (3, 6), (4, 6), (2, 10), (3, 10), (4, 10), (6, 10), (7, 10), (2, 11), (3, 11), (4, 11), (6, 11), (7, 11), (2, 12), (3, 12), (4, 12), (6, 12), (7, 12)]), (15, [(3, 7), (4, 7), (3, 8), (4, 8), (3, 9), (4, 9), (7, 9), (8, 9), (3, 13), (4, 13), (7, 13), (8, 13), (9, 13), (3, 16), (4, 16), (7, 16), (8, 16), (9, 16), (13, 16)])]⟩
def fi109 : FnI := ⟨[], true, false, []⟩
def fi110 : FnI := ⟨[2, 3], false, false, [(1, [(3, 7)])]⟩
def fi113 : FnI := ⟨[2, 3], false, false, [(1, [(3, 7), (13, 17)]), (2, [(2, 5), (9, 12), (16, 19)]), (3, [(1, 3), (1, 5), (3, 5), (1, 7), (3, 7), (5, 7)]), (4, [(2, 5), (9, 12), (16, 19)]), (6, [(6, 7)])]⟩
def fi114 : FnI := ⟨[], true, false, [(4, [(6, 11), (7, 11), (6, 12), (7, 12)]), (6, [(8, 12), (9, 12), (8, 13), (9, 13)])]⟩
def fi115 : FnI := ⟨[], true, false, [(10, [(10, 14), (11, 14), (10, 15), (11, 15)])]⟩
def fi116 : FnI := ⟨[], true, false, [(10, [(10, 14), (11, 14), (10, 15), (11, 15)])]⟩
def fi117 : FnI := ⟨[], true, false, []⟩
def fi118 : FnI := ⟨[], true, false, [(3, [(6, 10), (7, 10), (6, 11), (7, 11)])]⟩
def fi119 : FnI := ⟨[], true, false, [(5, [(6, 11), (7, 11), (6, 12), (7, 12)]), (11, [(8, 12), (9, 12), (8, 13), (9, 13)]), (16, [(2, 7), (3, 7), (2, 8), (3, 8)]), (17, [(8, 12), (9, 12), (8, 13), (9, 13)]), (22, [(2, 7), (3, 7), (2, 8), (3, 8)]), (23, [(8, 12), (9, 12), (8, 13), (9, 13)])]⟩
def fi121 : FnI := ⟨[], true, false, [(1, [(6, 10), (7, 10), (6, 11), (7, 11)]), (3, [(6, 10), (7, 10), (6, 11), (7, 11)]), (5, [(6, 10), (7, 10), (6, 11), (7, 11)]), (8, [(6, 10), (7, 10), (6, 11), (7, 11)])]⟩
def fi122 : FnI := ⟨[], true, false, [(1, [(6, 10), (7, 10), (6, 11), (7, 11)]), (3, [(6, 10), (7, 10), (6, 11), (7, 11)]), (5, [(6, 10), (7, 10), (6, 11), (7, 11)]), (8, [(6, 10), (7, 10), (6, 11), (7, 11)]), (10, [(6, 10), (7, 10), (6, 11), (7, 11)]), (13, [(6, 10), (7, 10), (6, 11), (7, 11)]), (15, [(6, 10), (7, 10), (6, 11), (7, 11)]), (18, [(6, 10), (7, 10), (6, 11), (7, 11)]), (21, [(6, 10), (7, 10), (6, 11), (7, 11)])]⟩
def fi125 : FnI := ⟨[2], false, false, [(1, [(1, 2)])]⟩
def fi126 : FnI := ⟨[], true, true, []⟩
def fi127 : FnI := ⟨[3, 4, 5], false, false, [(1, [(0, 1), (0, 2), (1, 2), (6, 7), (6, 8), (7, 8), (6, 9), (7, 9), (8, 9), (14, 15), (14, 16), (15, 16), (14, 17), (15, 17), (16, 17)])]⟩
def fi128 : FnI := ⟨[4, 5, 6, 7], false, false, [(1, [(0, 1), (0, 2), (1, 2), (0, 3), (1, 3), (2, 3)]), (3, [(0, 1), (4, 5), (9, 10)]), (5, [(0, 1), (0, 2), (1, 2), (0, 3), (1, 3), (2, 3)]), (7, [(0, 1), (0, 2), (1, 2), (0, 3), (1, 3), (2, 3), (7, 8), (7, 9), (8, 9), (7, 10), (8, 10), (9, 10), (15, 16), (15, 17), (16, 17), (15, 18), (16, 18), (17, 18), (23, 24), (23, 25), (24, 25), (23, 26), (24, 26), (25, 26)]), (9, [(0, 1), (0, 2), (1, 2), (0, 3), (1, 3), (2, 3)]), (10, [(0, 1), (0, 2), (1, 2), (0, 3), (1, 3), (2, 3), (0, 5), (1, 5), (2, 5), (3, 5), (4, 5), (0, 6), (1, 6), (2, 6), (3, 6), (4, 6), (5, 6), (0, 7), (1, 7), (2, 7), (3, 7), (4, 7), (5, 7), (6, 7), (0, 8), (1, 8), (2, 8), (3, 8), (4, 8), (5, 8), (6, 8), (7, 8)])]⟩
def fi129 : FnI := ⟨[2], false, false, []⟩
def fi130 : FnI := ⟨[], true, false, [(4, [(7, 12), (8, 12), (7, 13), (8, 13)]), (6, [(8, 12), (9, 12), (8, 13), (9, 13)])]⟩
def fi131 : FnI := ⟨[], true, false, [(5, [(3, 7), (4, 7), (3, 8), (4, 8)]), (11, [(8, 12), (9, 12), (8, 13), (9, 13)]), (17, [(3, 7), (4, 7), (3, 8), (4, 8)]), (23, [(8, 12), (9, 12), (8, 13), (9, 13)]), (35, [(5, 9), (6, 9), (5, 10), (6, 10)])]⟩
def fi132 : FnI := ⟨[], true, false, []⟩
def fi133 : FnI := ⟨[], true, false, []⟩
def fi134 : FnI := ⟨[3], false, false, [(2, [(3, 5), (3, 7), (5, 7), (3, 9), (5, 9), (7, 9)]), (3, [(6, 8), (6, 14), (8, 14), (6, 16), (8, 16), (14, 16), (16, 21)]), (4, [(6, 8), (6, 14), (8, 14), (6, 16), (8, 16), (14, 16), (16, 21)])]⟩
def fi135 : FnI := ⟨[], true, false, [(17, [(7, 11), (8, 11), (7, 12), (8, 12)])]⟩
def fi137 : FnI := ⟨[2], false, false, [(1, [(2, 4), (8, 10), (8, 12), (10, 12), (17, 18), (17, 19), (24, 25), (24, 26)])]⟩
def fi138 : FnI := ⟨[2, 3], false, false, [(1, [(1, 3), (7, 9), (14, 16), (21, 23)])]⟩
def fi139 : FnI := ⟨[3, 4, 5], false, false, [(1, [(0, 1), (0, 2), (1, 2), (6, 7), (6, 8), (7, 8)])]⟩
def fi140 : FnI := ⟨[1], false, false, []⟩
def fi141 : FnI := ⟨[1], false, false, [(1, [(1, 3)])]⟩
def fi142 : FnI := ⟨[4, 5, 6, 7], false, false, [(1, [(0, 1), (0, 2), (1, 2), (0, 3), (1, 3), (2, 3)]), (3, [(0, 1)]), (4, [(0, 1), (0, 2), (1, 2)]), (7, [(0, 1)]), (8, [(0, 1), (0, 2), (1, 2)]), (11, [(0, 1), (0, 2), (1, 2), (0, 4), (1, 4), (2, 4), (3, 4), (0, 5), (1, 5), (2, 5), (3, 5), (4, 5), (0, 6), (1, 6), (2, 6), (3, 6), (4, 6), (5, 6)]), (13, [(5, 6), (5, 7), (6, 7), (5, 9), (6, 9), (7, 9), (8, 9), (5, 10), (6, 10), (7, 10), (8, 10), (9, 10), (5, 11), (6, 11), (7, 11), (8, 11), (9, 11), (10, 11)]), (16, [(0, 1)]), (17, [(0, 1)]), (18, [(0, 1)]), (20, [(0, 1)]), (22, [(0, 1)])]⟩
def fi143 : FnI := ⟨[2, 3], false, false, [(1, [(0, 2), (1, 2)])]⟩
def fi144 : FnI := ⟨[], true, false, [(3, [(9, 16), (10, 16), (9, 17), (10, 17)]), (5, [(4, 10), (5, 10), (4, 11), (5, 11)]), (6, [(12, 18), (13, 18), (12, 19), (13, 19)])]⟩
def fi145 : FnI := ⟨[], true, false, []⟩
def fi146 : FnI := ⟨[], false, false, [(1, [(2, 5)]), (2, [(2, 5)]), (3, [(2, 5)])]⟩
def fi147 : FnI := ⟨[], true, false, []⟩
def fi148 : FnI := ⟨[], true, false, []⟩
def fi149 : FnI := ⟨[4, 5, 6, 7], false, false, [(1, [(1, 3), (1, 6), (3, 6), (1, 8), (3, 8), (6, 8), (1, 12), (3, 12), (6, 12), (8, 12), (1, 14), (3, 14), (6, 14), (8, 14), (12, 14), (1, 17), (3, 17), (6, 17), (8, 17), (12, 17), (14, 17), (1, 19), (3, 19), (6, 19), (8, 19), (12, 19), (14, 19), (17, 19)])]⟩
def fi150 : FnI := ⟨[4, 5, 6, 7], false, false, [(1, [(0, 1)]), (2, [(0, 1)]), (3, [(0, 1)]), (4, [(0, 1)]), (5, [(0, 1)]), (7, [(0, 1)]), (9, [(0, 1)]), (11, [(0, 1)])]⟩
def fi151 : FnI := ⟨[], true, false, []⟩
def fi152 : FnI := ⟨[], true, false, [(4, [(7, 12), (8, 12), (7, 13), (8, 13)]), (6, [(8, 12), (9, 12), (8, 13), (9, 13)])]⟩
def fi153 : FnI := ⟨[], true, false, [(10, [(10, 14), (11, 14), (10, 15), (11, 15)])]⟩
def fi154 : FnI := ⟨[], true, false, [(10, [(10, 14), (11, 14), (10, 15), (11, 15)])]⟩
def fi155 : FnI := ⟨[], true, false, []⟩
def fi156 : FnI := ⟨[], true, false, [(3, [(6, 10), (7, 10), (6, 11), (7, 11)])]⟩
def fi157 : FnI := ⟨[], true, false, [(5, [(7, 12), (8, 12), (7, 13), (8, 13)]), (11, [(8, 12), (9, 12), (8, 13), (9, 13)]), (16, [(3, 8), (4, 8), (3, 9), (4, 9)]), (17, [(8, 12), (9, 12), (8, 13), (9, 13)]), (22, [(3, 8), (4, 8), (3, 9), (4, 9)]), (23, [(8, 12), (9, 12), (8, 13), (9, 13)])]⟩
def fi158 : FnI := ⟨[], true, false, [(1, [(6, 10), (7, 10), (6, 11), (7, 11)]), (3, [(7, 11), (8, 11), (7, 12), (8, 12)]), (5, [(7, 11), (8, 11), (7, 12), (8, 12)]), (8, [(6, 10), (7, 10), (6, 11), (7, 11)])]⟩
def fi159 : FnI := ⟨[], true, false, [(1, [(6, 10), (7, 10), (6, 11), (7, 11)]), (3, [(7, 11), (8, 11), (7, 12), (8, 12)]), (5, [(7, 11), (8, 11), (7, 12), (8, 12)]), (8, [(6, 10), (7, 10), (6, 11), (7, 11)]), (10, [(6, 10), (7, 10), (6, 11), (7, 11)]), (13, [(7, 11), (8, 11), (7, 12), (8, 12)]), (15, [(7, 11), (8, 11), (7, 12), (8, 12)]), (18, [(6, 10), (7, 10), (6, 11), (7, 11)]), (21, [(6, 10), (7, 10), (6, 11), (7, 11)])]⟩
def fi160 : FnI := ⟨[3, 4, 5], false, false, [(1, [(0, 1), (0, 3), (1, 3), (2, 3), (0, 4), (1, 4), (2, 4), (3, 4), (9, 10), (9, 12), (10, 12), (11, 12), (9, 13), (10, 13), (11, 13), (12, 13)])]⟩
def fi161 : FnI := ⟨[3, 4, 5], false, false, [(1, [(0, 1), (0, 2), (1, 2)])]⟩
def fi162 : FnI := ⟨[2, 3, 4, 5], false, false, [(1, [(0, 1)]), (2, [(0, 1), (1, 2)]), (3, [(0, 1), (1, 2)])]⟩
def fi163 : FnI := ⟨[2, 3], false, false, [(1, [(1, 3), (1, 6), (3, 6), (4, 6), (1, 8), (3, 8), (4, 8), (6, 8)])]⟩
def fi164 : FnI := ⟨[], true, false, [(1, [(2, 6), (3, 6), (2, 7), (3, 7)])]⟩
def fi165 : FnI := ⟨[2, 3], false, false, [(1, [(1, 3), (7, 9), (13, 15)])]⟩
def fi166 : FnI := ⟨[], true, false, [(3, [(12, 18), (13, 18), (12, 19), (13, 19)])]⟩
def fi167 : FnI := ⟨[], true, false, [(3, [(10, 17), (11, 17), (10, 18), (11, 18)]), (5, [(5, 11), (6, 11), (5, 12), (6, 12)]), (6, [(12, 18), (13, 18), (12, 19), (13, 19)])]⟩
def fi168 : FnI := ⟨[], true, false, []⟩
def fi169 : FnI := ⟨[], true, false, []⟩
def fi170 : FnI := ⟨[2, 3], false, false, [(1, [(1, 3), (1, 6), (3, 6), (1, 8), (3, 8), (6, 8)])]⟩
def fi171 : FnI := ⟨[3, 4, 5], false, false, [(1, [(0, 1), (0, 2), (1, 2)]), (3, [(0, 1), (0, 3), (1, 3), (2, 3), (0, 4), (1, 4), (2, 4), (3, 4)])]⟩
def fi173 : FnI := ⟨[], true, false, [(1, [(3, 7), (4, 7), (3, 8), (4, 8)])]⟩
def fi : FnI := ⟨[], false, false, []⟩
def cfgT : Tb FnI := (.nd fi (.nd fi (.nd fi3 (.nd fi7 (.nd fi15 (.nd fi31 (.nd fi63 (.nd fi127 .e .e) .e) (.nd fi95 (.nd fi159 .e .e) .e)) (.nd fi47 (.nd fi79 (.nd fi143 .e .e) .e) (.nd fi (.nd fi .e .e) .e))) (.nd fi23 (.nd fi39 (.nd fi (.nd fi135 .e .e) .e) (.nd fi103 (.nd fi167 .e .e) .e)) (.nd fi55 (.nd fi87 (.nd fi151 .e .e) .e) (.nd fi119 (.nd fi .e .e) .e)))) (.nd fi11 (.nd fi19 (.nd fi35 (.nd fi67 (.nd fi131 .e .e) .e) (.nd fi99 (.nd fi163 .e .e) .e)) (.nd fi51 (.nd fi (.nd fi147 .e .e) .e) (.nd fi115 (.nd fi .e .e) .e))) (.nd fi27 (.nd fi (.nd fi75 (.nd fi139 .e .e) .e) (.nd fi107 (.nd fi171 .e .e) .e)) (.nd fi59 (.nd fi91 (.nd fi155 .e .e) .e) (.nd fi (.nd fi .e .e) .e))))) (.nd fi5 (.nd fi9 (.nd fi17 (.nd fi33 (.nd fi65 (.nd fi129 .e .e) .e) (.nd fi97 (.nd fi161 .e .e) .e)) (.nd fi49 (.nd fi81 (.nd fi145 .e .e) .e) (.nd fi113 (.nd fi .e .e) .e))) (.nd fi25 (.nd fi41 (.nd fi (.nd fi137 .e .e) .e) (.nd fi105 (.nd fi169 .e .e) .e)) (.nd fi57 (.nd fi89 (.nd fi153 .e .e) .e) (.nd fi121 (.nd fi .e .e) .e)))) (.nd fi13 (.nd fi21 (.nd fi37 (.nd fi69 (.nd fi133 .e .e) .e) (.nd fi101 (.nd fi165 .e .e) .e)) (.nd fi53 (.nd fi85 (.nd fi149 .e .e) .e) (.nd fi117 (.nd fi .e .e) .e))) (.nd fi29 (.nd fi45 (.nd fi77 (.nd fi141 .e .e) .e) (.nd fi109 (.nd fi173 .e .e) .e)) (.nd fi61 (.nd fi93 (.nd fi157 .e .e) .e) (.nd fi125 (.nd fi .e .e) .e)))))) (.nd fi (.nd fi4 (.nd fi8 (.nd fi16 (.nd fi32 (.nd fi64 (.nd fi128 .e .e) .e) (.nd fi96 (.nd fi160 .e .e) .e)) (.nd fi48 (.nd fi80 (.nd fi144 .e .e) .e) (.nd fi (.nd fi .e .e) .e))) (.nd fi24 (.nd fi40 (.nd fi72 (.nd fi .e .e) .e) (.nd fi104 (.nd fi168 .e .e) .e)) (.nd fi56 (.nd fi88 (.nd fi152 .e .e) .e) (.nd fi (.nd fi .e .e) .e)))) (.nd fi12 (.nd fi20 (.nd fi36 (.nd fi68 (.nd fi132 .e .e) .e) (.nd fi (.nd fi164 .e .e) .e)) (.nd fi52 (.nd fi84 (.nd fi148 .e .e) .e) (.nd fi116 (.nd fi .e .e) .e))) (.nd fi28 (.nd fi44 (.nd fi76 (.nd fi140 .e .e) .e) (.nd fi108 (.nd fi .e .e) .e)) (.nd fi60 (.nd fi92 (.nd fi156 .e .e) .e) (.nd fi (.nd fi .e .e) .e))))) (.nd fi6 (.nd fi10 (.nd fi18 (.nd fi34 (.nd fi (.nd fi130 .e .e) .e) (.nd fi98 (.nd fi162 .e .e) .e)) (.nd fi50 (.nd fi82 (.nd fi146 .e .e) .e) (.nd fi114 (.nd fi .e .e) .e))) (.nd fi26 (.nd fi42 (.nd fi74 (.nd fi138 .e .e) .e) (.nd fi106 (.nd fi170 .e .e) .e)) (.nd fi58 (.nd fi90 (.nd fi154 .e .e) .e) (.nd fi122 (.nd fi .e .e) .e)))) (.nd fi14 (.nd fi22 (.nd fi38 (.nd fi70 (.nd fi134 .e .e) .e) (.nd fi102 (.nd fi166 .e .e) .e)) (.nd fi54 (.nd fi86 (.nd fi150 .e .e) .e) (.nd fi118 (.nd fi .e .e) .e))) (.nd fi (.nd fi (.nd fi78 (.nd fi142 .e .e) .e) (.nd fi110 (.nd fi .e .e) .e)) (.nd fi62 (.nd fi94 (.nd fi158 .e .e) .e) (.nd fi126 .e .e)))))))
def cfg : Cfg := ⟨cfgT⟩
theorem noNum_ok : noNum Go.Proofs.Tryz.prog = true := by kernel_rfl

theorem funcsOk_split {cfg : Cfg} : ∀ (n : Nat) (fs : List Func) (i : Nat), funcsOk cfg (fs.take n) i = true → funcsOk cfg (fs.drop n) (i + n) = true → funcsOk cfg fs i = true
  | 0, fs, i, _, h => by simpa using h
  | n + 1, [], i, _, _ => rfl
  | n + 1, f :: fs, i, h1, h2 => by
    simp only [List.take_succ_cons, funcsOk, Bool.and_eq_true] at h1 ⊢
    exact ⟨h1.1, funcsOk_split n fs (i + 1) h1.2 (by simpa [Nat.add_assoc, Nat.add_comm 1 n] using h2)⟩
theorem ok0 : funcsOk cfg ((Go.Proofs.Tryz.prog.funcs.toList.drop 0).take 10) 0 = true := by kernel_rfl
theorem ok10 : funcsOk cfg ((Go.Proofs.Tryz.prog.funcs.toList.drop 10).take 10) 10 = true := by kernel_rfl
theorem ok20 : funcsOk cfg ((Go.Proofs.Tryz.prog.funcs.toList.drop 20).take 10) 20 = true := by kernel_rfl
theorem ok30 : funcsOk cfg ((Go.Proofs.Tryz.prog.funcs.toList.drop 30).take 10) 30 = true := by kernel_rfl
theorem ok40 : funcsOk cfg ((Go.Proofs.Tryz.prog.funcs.toList.drop 40).take 10) 40 = true := by kernel_rfl
theorem ok50 : funcsOk cfg ((Go.Proofs.Tryz.prog.funcs.toList.drop 50).take 10) 50 = true := by kernel_rfl
theorem ok60 : funcsOk cfg ((Go.Proofs.Tryz.prog.funcs.toList.drop 60).take 10) 60 = true := by kernel_rfl
theorem ok70 : funcsOk cfg ((Go.Proofs.Tryz.prog.funcs.toList.drop 70).take 10) 70 = true := by kernel_rfl
theorem ok80 : funcsOk cfg ((Go.Proofs.Tryz.prog.funcs.toList.drop 80).take 10) 80 = true := by kernel_rfl
theorem ok90 : funcsOk cfg ((Go.Proofs.Tryz.prog.funcs.toList.drop 90).take 10) 90 = true := by kernel_rfl
theorem ok100 : funcsOk cfg ((Go.Proofs.Tryz.prog.funcs.toList.drop 100).take 10) 100 = true := by kernel_rfl
theorem ok110 : funcsOk cfg ((Go.Proofs.Tryz.prog.funcs.toList.drop 110).take 10) 110 = true := by kernel_rfl
theorem ok120 : funcsOk cfg ((Go.Proofs.Tryz.prog.funcs.toList.drop 120).take 10) 120 = true := by kernel_rfl
theorem ok130 : funcsOk cfg ((Go.Proofs.Tryz.prog.funcs.toList.drop 130).take 10) 130 = true := by kernel_rfl
theorem ok140 : funcsOk cfg ((Go.Proofs.Tryz.prog.funcs.toList.drop 140).take 10) 140 = true := by kernel_rfl
theorem ok150 : funcsOk cfg ((Go.Proofs.Tryz.prog.funcs.toList.drop 150).take 10) 150 = true := by kernel_rfl
theorem ok160 : funcsOk cfg ((Go.Proofs.Tryz.prog.funcs.toList.drop 160).take 10) 160 = true := by kernel_rfl
theorem ok170 : funcsOk cfg ((Go.Proofs.Tryz.prog.funcs.toList.drop 170).take 10) 170 = true := by kernel_rfl
theorem ok180 : funcsOk cfg ((Go.Proofs.Tryz.prog.funcs.toList.drop 180).take 10) 180 = true := by kernel_rfl
theorem okEnd : funcsOk cfg (Go.Proofs.Tryz.prog.funcs.toList.drop 190) 190 = true := by kernel_rfl
theorem from180 : funcsOk cfg (Go.Proofs.Tryz.prog.funcs.toList.drop 180) 180 = true := funcsOk_split 10 _ 180 ok180 (by rw [List.drop_drop]; exact okEnd)
theorem from170 : funcsOk cfg (Go.Proofs.Tryz.prog.funcs.toList.drop 170) 170 = true := funcsOk_split 10 _ 170 ok170 (by rw [List.drop_drop]; exact from180)
theorem from160 : funcsOk cfg (Go.Proofs.Tryz.prog.funcs.toList.drop 160) 160 = true := funcsOk_split 10 _ 160 ok160 (by rw [List.drop_drop]; exact from170)
theorem from150 : funcsOk cfg (Go.Proofs.Tryz.prog.funcs.toList.drop 150) 150 = true := funcsOk_split 10 _ 150 ok150 (by rw [List.drop_drop]; exact from160)
theorem from140 : funcsOk cfg (Go.Proofs.Tryz.prog.funcs.toList.drop 140) 140 = true := funcsOk_split 10 _ 140 ok140 (by rw [List.drop_drop]; exact from150)
theorem from130 : funcsOk cfg (Go.Proofs.Tryz.prog.funcs.toList.drop 130) 130 = true := funcsOk_split 10 _ 130 ok130 (by rw [List.drop_drop]; exact from140)
theorem from120 : funcsOk cfg (Go.Proofs.Tryz.prog.funcs.toList.drop 120) 120 = true := funcsOk_split 10 _ 120 ok120 (by rw [List.drop_drop]; exact from130)
theorem from110 : funcsOk cfg (Go.Proofs.Tryz.prog.funcs.toList.drop 110) 110 = true := funcsOk_split 10 _ 110 ok110 (by rw [List.drop_drop]; exact from120)
theorem from100 : funcsOk cfg (Go.Proofs.Tryz.prog.funcs.toList.drop 100) 100 = true := funcsOk_split 10 _ 100 ok100 (by rw [List.drop_drop]; exact from110)
theorem from90 : funcsOk cfg (Go.Proofs.Tryz.prog.funcs.toList.drop 90) 90 = true := funcsOk_split 10 _ 90 ok90 (by rw [List.drop_drop]; exact from100)
theorem from80 : funcsOk cfg (Go.Proofs.Tryz.prog.funcs.toList.drop 80) 80 = true := funcsOk_split 10 _ 80 ok80 (by rw [List.drop_drop]; exact from90)
theorem from70 : funcsOk cfg (Go.Proofs.Tryz.prog.funcs.toList.drop 70) 70 = true := funcsOk_split 10 _ 70 ok70 (by rw [List.drop_drop]; exact from80)
theorem from60 : funcsOk cfg (Go.Proofs.Tryz.prog.funcs.toList.drop 60) 60 = true := funcsOk_split 10 _ 60 ok60 (by rw [List.drop_drop]; exact from70)
theorem from50 : funcsOk cfg (Go.Proofs.Tryz.prog.funcs.toList.drop 50) 50 = true := funcsOk_split 10 _ 50 ok50 (by rw [List.drop_drop]; exact from60)
theorem from40 : funcsOk cfg (Go.Proofs.Tryz.prog.funcs.toList.drop 40) 40 = true := funcsOk_split 10 _ 40 ok40 (by rw [List.drop_drop]; exact from50)
theorem from30 : funcsOk cfg (Go.Proofs.Tryz.prog.funcs.toList.drop 30) 30 = true := funcsOk_split 10 _ 30 ok30 (by rw [List.drop_drop]; exact from40)
theorem from20 : funcsOk cfg (Go.Proofs.Tryz.prog.funcs.toList.drop 20) 20 = true := funcsOk_split 10 _ 20 ok20 (by rw [List.drop_drop]; exact from30)
theorem from10 : funcsOk cfg (Go.Proofs.Tryz.prog.funcs.toList.drop 10) 10 = true := funcsOk_split 10 _ 10 ok10 (by rw [List.drop_drop]; exact from20)
theorem from0 : funcsOk cfg (Go.Proofs.Tryz.prog.funcs.toList.drop 0) 0 = true := funcsOk_split 10 _ 0 ok0 (by rw [List.drop_drop]; exact from10)
theorem funcs_ok : funcsOk cfg Go.Proofs.Tryz.prog.funcs.toList 0 = true := by simpa using from0
theorem sound {orc : CallF} (horc : CallSound Go.Proofs.Tryz.prog orc) (n : Nat) : CallSound Go.Proofs.Tryz.prog (callT Go.Proofs.Tryz.prog cfg orc n) := callT_sound horc noNum_ok funcs_ok n
end Go.TL
