/- The small machine's code of the seat's functions. Conditions: none. -/
import Derived.Test.YthcnhibjddomdaaGreatM3
import Derived.Test.YthcnhibjddomdaaGreatCda
set_option linter.unusedVariables false
set_option linter.unusedSimpArgs false
set_option linter.unusedSectionVars false
namespace Go.Proofs.YthcnhibjddomdaaGreat
open Go

/- oriel/orielref30.May -/
def q51R0 : List AOper := [⟨some 1, none, .box 33 (.slot 0)⟩,
  ⟨some 2, none, .mov (.const (.bool false))⟩]
def q51R1 : List AOper := ⟨some 9, none, .faddr 0 (.slot 1)⟩ ::
  ⟨some 10, none, .load false 1 (.slot 9)⟩ ::
  ⟨some 11, none, .call .frz n_ref26_May [(.slot 10)]⟩ ::
  ⟨some 12, none, .not (.slot 11)⟩ ::
  ⟨some 13, none, .mov (.slot 12)⟩ ::
  ⟨some 14, some (13, false), .faddr 1 (.slot 1)⟩ ::
  ⟨some 15, some (13, false), .load true 2 (.slot 14)⟩ ::
  ⟨some 16, some (13, false), .call .frz n_ref27_May [(.slot 15)]⟩ ::
  ⟨some 17, some (13, false), .not (.slot 16)⟩ ::
  ⟨some 18, none, .pick (.slot 13) (.const (.bool true)) (.slot 17)⟩ ::
  ⟨some 19, none, .mov (.slot 18)⟩ ::
  ⟨some 20, some (19, false), .faddr 3 (.slot 1)⟩ ::
  ⟨some 21, some (19, false), .load false 1 (.slot 20)⟩ ::
  ⟨some 22, some (19, false), .call .frz n_ref28_May [(.slot 21)]⟩ ::
  ⟨some 23, some (19, false), .not (.slot 22)⟩ ::
  ⟨some 24, none, .pick (.slot 19) (.const (.bool true)) (.slot 23)⟩ ::
  ⟨some 25, none, .mov (.slot 24)⟩ ::
  ⟨some 26, some (25, false), .faddr 4 (.slot 1)⟩ ::
  ⟨some 27, some (25, false), .load true 18 (.slot 26)⟩ ::
  ⟨some 28, some (25, false), .call .frz n_ref29_May [(.slot 27)]⟩ ::
  ⟨some 29, some (25, false), .not (.slot 28)⟩ ::
  ⟨some 30, none, .pick (.slot 25) (.const (.bool true)) (.slot 29)⟩ ::
  ⟨some 31, none, .mov (.slot 30)⟩ ::
  ⟨some 32, some (31, false), .faddr 22 (.slot 1)⟩ ::
  ⟨some 33, some (31, false), .load false 1 (.slot 32)⟩ ::
  ⟨some 34, some (31, false), .bin .lss (.slot 33) (.const (.int .i64 1))⟩ ::
  ⟨some 35, none, .pick (.slot 31) (.const (.bool true)) (.slot 34)⟩ ::
  ⟨some 36, none, .mov (.slot 35)⟩ ::
  ⟨some 37, some (36, false), .faddr 22 (.slot 1)⟩ ::
  ⟨some 38, some (36, false), .load false 1 (.slot 37)⟩ ::
  ⟨some 39, some (36, false), .bin .gtr (.slot 38) (.const (.int .i64 24))⟩ ::
  ⟨some 40, none, .pick (.slot 36) (.const (.bool true)) (.slot 39)⟩ ::
  ⟨some 41, none, .mov (.slot 40)⟩ ::
  ⟨some 42, some (41, false), .faddr 23 (.slot 1)⟩ ::
  ⟨some 43, some (41, false), .load false 1 (.slot 42)⟩ ::
  ⟨some 44, some (41, false), .bin .lss (.slot 43) (.const (.int .i64 1))⟩ ::
  ⟨some 45, none, .pick (.slot 41) (.const (.bool true)) (.slot 44)⟩ ::
  ⟨some 46, none, .mov (.slot 45)⟩ ::
  ⟨some 47, some (46, false), .faddr 23 (.slot 1)⟩ ::
  ⟨some 48, some (46, false), .load false 1 (.slot 47)⟩ ::
  ⟨some 49, some (46, false), .bin .gtr (.slot 48) (.const (.int .i64 40))⟩ ::
  ⟨some 50, none, .pick (.slot 46) (.const (.bool true)) (.slot 49)⟩ :: []
def q51R2 : List AOper := [⟨some 2, none, .mov (.const (.bool false))⟩]
def q51R3 : List AOper := [⟨some 51, none, .faddr 1 (.slot 1)⟩,
  ⟨some 52, none, .load true 2 (.slot 51)⟩,
  ⟨some 53, none, .call .frz n_ref27_All [(.slot 52)]⟩,
  ⟨some 3, none, .mov (.slot 53)⟩]
def q51R4 : List AOper := [⟨some 4, none, .mov (.const (.int .i64 0))⟩]
def q51R5 : List AOper := [⟨some 54, none, .mov (.slot 4)⟩,
  ⟨some 55, none, .mov (.slot 3)⟩,
  ⟨some 56, none, .len false (.slot 55)⟩,
  ⟨some 57, none, .bin .lss (.slot 54) (.slot 56)⟩]
def q51R7 : List AOper := [⟨some 60, none, .faddr 0 (.slot 1)⟩,
  ⟨some 61, none, .load false 1 (.slot 60)⟩,
  ⟨some 62, none, .mov (.slot 3)⟩,
  ⟨some 63, none, .mov (.slot 4)⟩,
  ⟨some 64, none, .idx 1 (.slot 62) (.slot 63)⟩,
  ⟨some 65, none, .load false 1 (.slot 64)⟩,
  ⟨some 66, none, .call .frz n_ref26_Role [(.slot 61), (.slot 65)]⟩,
  ⟨some 67, none, .bin .neq (.slot 66) (.const (.int .i64 2))⟩]
def q51R8 : List AOper := [⟨some 2, none, .mov (.const (.bool false))⟩]
def q51R6 : List AOper := [⟨some 58, none, .mov (.slot 4)⟩,
  ⟨some 59, none, .bin .add (.slot 58) (.const (.int .i64 1))⟩,
  ⟨some 4, none, .mov (.slot 59)⟩]
def c_ref30_May_L0 : ACode := (.seq (.seq (.region q51R5 false [1, 3, 4, 57]) (.cond (.slot 57) .skip (.exit 0))) (.seq (.block 1 (.seq (.region q51R7 true [1, 3, 4, 67]) (.cond (.slot 67) (.seq (.region q51R8 false [2]) .ret) .skip))) (.region q51R6 false [1, 3, 4])))
def lp_ref30_May_0 : ACode := .loop [1, 3, 4] c_ref30_May_L0
def q51R9 : List AOper := [⟨some 5, none, .mov (.const (.int .i64 0))⟩]
def q51R10 : List AOper := [⟨some 68, none, .mov (.slot 5)⟩,
  ⟨some 69, none, .bin .lss (.slot 68) (.const (.int .i64 9))⟩]
def q51R12 : List AOper := [⟨some 72, none, .faddr 0 (.slot 1)⟩,
  ⟨some 73, none, .load false 1 (.slot 72)⟩,
  ⟨some 74, none, .mov (.slot 5)⟩,
  ⟨some 75, none, .call .frz n_ref26_Role [(.slot 73), (.slot 74)]⟩,
  ⟨some 76, none, .bin .neq (.slot 75) (.const (.int .i64 0))⟩,
  ⟨some 6, none, .mov (.slot 76)⟩]
def q51R13 : List AOper := ⟨some 77, none, .mov (.slot 5)⟩ ::
  ⟨some 78, none, .faddr 24 (.slot 1)⟩ ::
  ⟨some 79, none, .idxarr 1 9 (.slot 78) (.slot 77)⟩ ::
  ⟨some 80, none, .load false 1 (.slot 79)⟩ ::
  ⟨some 81, none, .bin .lss (.slot 80) (.const (.int .i64 0))⟩ ::
  ⟨some 82, none, .mov (.slot 81)⟩ ::
  ⟨some 83, some (82, false), .mov (.slot 5)⟩ ::
  ⟨some 84, some (82, false), .faddr 24 (.slot 1)⟩ ::
  ⟨some 85, some (82, false), .idxarr 1 9 (.slot 84) (.slot 83)⟩ ::
  ⟨some 86, some (82, false), .load false 1 (.slot 85)⟩ ::
  ⟨some 87, some (82, false), .bin .gtr (.slot 86) (.const (.int .i64 1073741824))⟩ ::
  ⟨some 88, none, .pick (.slot 82) (.const (.bool true)) (.slot 87)⟩ ::
  ⟨some 89, none, .mov (.slot 88)⟩ ::
  ⟨some 90, some (89, false), .mov (.slot 6)⟩ ::
  ⟨some 91, some (89, false), .not (.slot 90)⟩ ::
  ⟨some 92, some (89, false), .mov (.slot 91)⟩ ::
  ⟨some 93, some (92, true), .mov (.slot 5)⟩ ::
  ⟨some 94, some (92, true), .faddr 24 (.slot 1)⟩ ::
  ⟨some 95, some (92, true), .idxarr 1 9 (.slot 94) (.slot 93)⟩ ::
  ⟨some 96, some (92, true), .load false 1 (.slot 95)⟩ ::
  ⟨some 97, some (92, true), .bin .neq (.slot 96) (.const (.int .i64 0))⟩ ::
  ⟨some 98, some (92, true), .mov (.slot 97)⟩ ::
  ⟨some 99, some (98, false), .mov (.slot 5)⟩ ::
  ⟨some 100, some (98, false), .faddr 4 (.slot 1)⟩ ::
  ⟨some 101, some (98, false), .idxarr 2 9 (.slot 100) (.slot 99)⟩ ::
  ⟨some 102, some (98, false), .idxarr 1 2 (.slot 101) (.const (.int .i64 0))⟩ ::
  ⟨some 103, some (98, false), .load false 1 (.slot 102)⟩ ::
  ⟨some 104, some (98, false), .bin .neq (.slot 103) (.const (.int .i64 0))⟩ ::
  ⟨some 105, some (92, true), .pick (.slot 98) (.const (.bool true)) (.slot 104)⟩ ::
  ⟨some 106, some (92, true), .mov (.slot 105)⟩ ::
  ⟨some 107, some (106, false), .mov (.slot 5)⟩ ::
  ⟨some 108, some (106, false), .faddr 4 (.slot 1)⟩ ::
  ⟨some 109, some (106, false), .idxarr 2 9 (.slot 108) (.slot 107)⟩ ::
  ⟨some 110, some (106, false), .idxarr 1 2 (.slot 109) (.const (.int .i64 1))⟩ ::
  ⟨some 111, some (106, false), .load false 1 (.slot 110)⟩ ::
  ⟨some 112, some (106, false), .bin .neq (.slot 111) (.const (.int .i64 0))⟩ ::
  ⟨some 113, some (92, true), .pick (.slot 106) (.const (.bool true)) (.slot 112)⟩ ::
  ⟨some 114, some (89, false), .pick (.slot 92) (.slot 113) (.const (.bool false))⟩ ::
  ⟨some 115, none, .pick (.slot 89) (.const (.bool true)) (.slot 114)⟩ :: []
def q51R14 : List AOper := [⟨some 2, none, .mov (.const (.bool false))⟩]
def q51R11 : List AOper := [⟨some 70, none, .mov (.slot 5)⟩,
  ⟨some 71, none, .bin .add (.slot 70) (.const (.int .i64 1))⟩,
  ⟨some 5, none, .mov (.slot 71)⟩]
def c_ref30_May_L1 : ACode := (.seq (.seq (.region q51R10 false [1, 5, 69]) (.cond (.slot 69) .skip (.exit 2))) (.seq (.block 3 (.seq (.region q51R12 false [1, 5, 6]) (.seq (.region q51R13 false [1, 5, 115]) (.cond (.slot 115) (.seq (.region q51R14 false [2]) .ret) .skip)))) (.region q51R11 false [1, 5])))
def lp_ref30_May_1 : ACode := .loop [1, 5] c_ref30_May_L1
def q51R15 : List AOper := [⟨some 7, none, .mov (.const (.int .i64 0))⟩]
def q51R16 : List AOper := [⟨some 116, none, .mov (.slot 7)⟩,
  ⟨some 117, none, .faddr 3 (.slot 1)⟩,
  ⟨some 118, none, .load false 1 (.slot 117)⟩,
  ⟨some 119, none, .len false (.slot 118)⟩,
  ⟨some 120, none, .bin .lss (.slot 116) (.slot 119)⟩]
def q51R18 : List AOper := [⟨some 123, none, .faddr 3 (.slot 1)⟩,
  ⟨some 124, none, .load false 1 (.slot 123)⟩,
  ⟨some 125, none, .mov (.slot 7)⟩,
  ⟨some 126, none, .idx 3 (.slot 124) (.slot 125)⟩,
  ⟨some 127, none, .load true 3 (.slot 126)⟩,
  ⟨some 8, none, .alloc [.int .i64 0, .int .i64 0, .data false 1 [] true]⟩,
  ⟨none, none, .store true 3 (.slot 8) (.slot 127)⟩]
def q51R19 : List AOper := [⟨some 128, none, .faddr 0 (.slot 1)⟩,
  ⟨some 129, none, .load false 1 (.slot 128)⟩,
  ⟨some 130, none, .faddr 0 (.slot 8)⟩,
  ⟨some 131, none, .load false 1 (.slot 130)⟩,
  ⟨some 132, none, .call .frz n_ref26_Role [(.slot 129), (.slot 131)]⟩,
  ⟨some 133, none, .bin .eql (.slot 132) (.const (.int .i64 0))⟩,
  ⟨some 134, none, .mov (.slot 133)⟩,
  ⟨some 135, some (134, false), .faddr 1 (.slot 8)⟩,
  ⟨some 136, some (134, false), .load false 1 (.slot 135)⟩,
  ⟨some 137, some (134, false), .faddr 0 (.slot 8)⟩,
  ⟨some 138, some (134, false), .load false 1 (.slot 137)⟩,
  ⟨some 139, some (134, false), .faddr 24 (.slot 1)⟩,
  ⟨some 140, some (134, false), .idxarr 1 9 (.slot 139) (.slot 138)⟩,
  ⟨some 141, some (134, false), .load false 1 (.slot 140)⟩,
  ⟨some 142, some (134, false), .bin .gtr (.slot 136) (.slot 141)⟩,
  ⟨some 143, none, .pick (.slot 134) (.const (.bool true)) (.slot 142)⟩]
def q51R20 : List AOper := [⟨some 2, none, .mov (.const (.bool false))⟩]
def q51R17 : List AOper := [⟨some 121, none, .mov (.slot 7)⟩,
  ⟨some 122, none, .bin .add (.slot 121) (.const (.int .i64 1))⟩,
  ⟨some 7, none, .mov (.slot 122)⟩]
def c_ref30_May_L2 : ACode := (.seq (.seq (.region q51R16 false [1, 7, 120]) (.cond (.slot 120) .skip (.exit 4))) (.seq (.block 5 (.seq (.region q51R18 false [1, 7, 8]) (.seq (.region q51R19 true [1, 7, 143]) (.cond (.slot 143) (.seq (.region q51R20 false [2]) .ret) .skip)))) (.region q51R17 false [1, 7])))
def lp_ref30_May_2 : ACode := .loop [1, 7] c_ref30_May_L2
def q51R21 : List AOper := [⟨some 2, none, .mov (.const (.bool true))⟩]
def c_ref30_May : AFn := ⟨(.seq (.region q51R0 false [1]) (.seq (.seq (.region q51R1 false [1, 50]) (.cond (.slot 50) (.seq (.region q51R2 false [2]) .ret) .skip)) (.seq (.region q51R3 false [1, 3]) (.seq (.seq (.region q51R4 false [1, 3, 4]) (.block 0 lp_ref30_May_0)) (.seq (.seq (.region q51R9 false [1, 5]) (.block 2 lp_ref30_May_1)) (.seq (.seq (.region q51R15 false [1, 7]) (.block 4 lp_ref30_May_2)) (.seq (.region q51R21 false [2]) .ret))))))), [.slot 2]⟩
/- bytes.Equal -/
def q1R0 : List AOper := [⟨some 4, none, .mov (.const (.bool false))⟩]
def q1R1 : List AOper := [⟨some 5, none, .mov (.slot 0)⟩,
  ⟨some 6, none, .bstr (.slot 5)⟩,
  ⟨some 7, none, .mov (.slot 1)⟩,
  ⟨some 8, none, .bstr (.slot 7)⟩,
  ⟨some 9, none, .eq false [.ks] false (.slot 6) (.slot 8)⟩,
  ⟨some 4, none, .mov (.slot 9)⟩]
def c_bytes_Equal : AFn := ⟨(.seq (.region q1R0 false [0, 1]) (.seq (.region q1R1 false [4]) .ret)), [.slot 4]⟩
/- oriel/session.Same'1 -/
def q75R0 : List AOper := [⟨some 2, none, .box 3 (.slot 0)⟩,
  ⟨some 3, none, .box 3 (.slot 1)⟩,
  ⟨some 4, none, .mov (.const (.bool false))⟩]
def q75R1 : List AOper := [⟨some 5, none, .faddr 0 (.slot 2)⟩,
  ⟨some 6, none, .load false 1 (.slot 5)⟩,
  ⟨some 7, none, .faddr 0 (.slot 3)⟩,
  ⟨some 8, none, .load false 1 (.slot 7)⟩,
  ⟨some 9, none, .bin .eql (.slot 6) (.slot 8)⟩,
  ⟨some 10, none, .mov (.slot 9)⟩,
  ⟨some 11, some (10, true), .faddr 1 (.slot 2)⟩,
  ⟨some 12, some (10, true), .load false 1 (.slot 11)⟩,
  ⟨some 13, some (10, true), .faddr 1 (.slot 3)⟩,
  ⟨some 14, some (10, true), .load false 1 (.slot 13)⟩,
  ⟨some 15, some (10, true), .bin .eql (.slot 12) (.slot 14)⟩,
  ⟨some 16, none, .pick (.slot 10) (.slot 15) (.const (.bool false))⟩,
  ⟨some 17, none, .mov (.slot 16)⟩,
  ⟨some 18, some (17, true), .faddr 2 (.slot 2)⟩,
  ⟨some 19, some (17, true), .load false 1 (.slot 18)⟩,
  ⟨some 20, some (17, true), .faddr 2 (.slot 3)⟩,
  ⟨some 21, some (17, true), .load false 1 (.slot 20)⟩,
  ⟨some 22, some (17, true), .call .frz n_bytes_Equal [(.slot 19), (.slot 21)]⟩,
  ⟨some 23, none, .pick (.slot 17) (.slot 22) (.const (.bool false))⟩,
  ⟨some 4, none, .mov (.slot 23)⟩]
def c_session_Same_1 : AFn := ⟨(.seq (.region q75R0 false [2, 3]) (.seq (.region q75R1 false [4]) .ret)), [.slot 4]⟩
/- slices.Equal[[]oriel/api.Member,oriel/api.Member] -/
def q106R0 : List AOper := [⟨some 4, none, .mov (.const (.bool false))⟩]
def q106R1 : List AOper := [⟨some 6, none, .mov (.slot 0)⟩,
  ⟨some 7, none, .len false (.slot 6)⟩,
  ⟨some 8, none, .mov (.slot 1)⟩,
  ⟨some 9, none, .len false (.slot 8)⟩,
  ⟨some 10, none, .bin .neq (.slot 7) (.slot 9)⟩]
def q106R2 : List AOper := [⟨some 4, none, .mov (.const (.bool false))⟩]
def q106R3 : List AOper := [⟨some 11, none, .mov (.slot 0)⟩,
  ⟨some 12, none, .len false (.slot 11)⟩,
  ⟨some 13, none, .mov (.const (.int .i64 0))⟩]
def q106R4 : List AOper := [⟨some 14, none, .bin .lss (.slot 13) (.slot 12)⟩]
def q106R5 : List AOper := [⟨some 15, none, .mov (.slot 13)⟩,
  ⟨some 5, none, .mov (.slot 15)⟩]
def q106R6 : List AOper := [⟨some 16, none, .mov (.slot 0)⟩,
  ⟨some 17, none, .mov (.slot 5)⟩,
  ⟨some 18, none, .idx 2 (.slot 16) (.slot 17)⟩,
  ⟨some 19, none, .load true 2 (.slot 18)⟩,
  ⟨some 20, none, .mov (.slot 1)⟩,
  ⟨some 21, none, .mov (.slot 5)⟩,
  ⟨some 22, none, .idx 2 (.slot 20) (.slot 21)⟩,
  ⟨some 23, none, .load true 2 (.slot 22)⟩,
  ⟨some 24, none, .eq true [.ki, .ki] true (.slot 19) (.slot 23)⟩]
def q106R7 : List AOper := [⟨some 4, none, .mov (.const (.bool false))⟩]
def q106R8 : List AOper := [⟨some 25, none, .bin .add (.slot 13) (.const (.int .i64 1))⟩,
  ⟨some 13, none, .mov (.slot 25)⟩]
def c_slices_Equal_Member_L0 : ACode := (.seq (.region q106R4 false [0, 1, 12, 13, 14]) (.seq (.cond (.slot 14) .skip (.exit 0)) (.seq (.block 1 (.seq (.region q106R5 false [0, 1, 5, 12, 13]) (.seq (.region q106R6 true [0, 1, 12, 13, 24]) (.cond (.slot 24) (.seq (.region q106R7 false [4]) .ret) .skip)))) (.region q106R8 false [0, 1, 12, 13]))))
def lp_slices_Equal_Member_0 : ACode := .loop [0, 1, 12, 13] c_slices_Equal_Member_L0
def q106R9 : List AOper := [⟨some 4, none, .mov (.const (.bool true))⟩]
def c_slices_Equal_Member : AFn := ⟨(.seq (.region q106R0 false [0, 1]) (.seq (.seq (.region q106R1 false [0, 1, 10]) (.cond (.slot 10) (.seq (.region q106R2 false [4]) .ret) .skip)) (.seq (.seq (.region q106R3 false [0, 1, 12, 13]) (.block 0 lp_slices_Equal_Member_0)) (.seq (.region q106R9 false [4]) .ret)))), [.slot 4]⟩
/- slices.Equal[[]int,int] -/
def q107R0 : List AOper := [⟨some 4, none, .mov (.const (.bool false))⟩]
def q107R1 : List AOper := [⟨some 6, none, .mov (.slot 0)⟩,
  ⟨some 7, none, .len false (.slot 6)⟩,
  ⟨some 8, none, .mov (.slot 1)⟩,
  ⟨some 9, none, .len false (.slot 8)⟩,
  ⟨some 10, none, .bin .neq (.slot 7) (.slot 9)⟩]
def q107R2 : List AOper := [⟨some 4, none, .mov (.const (.bool false))⟩]
def q107R3 : List AOper := [⟨some 11, none, .mov (.slot 0)⟩,
  ⟨some 12, none, .len false (.slot 11)⟩,
  ⟨some 13, none, .mov (.const (.int .i64 0))⟩]
def q107R4 : List AOper := [⟨some 14, none, .bin .lss (.slot 13) (.slot 12)⟩]
def q107R5 : List AOper := [⟨some 15, none, .mov (.slot 13)⟩,
  ⟨some 5, none, .mov (.slot 15)⟩]
def q107R6 : List AOper := [⟨some 16, none, .mov (.slot 0)⟩,
  ⟨some 17, none, .mov (.slot 5)⟩,
  ⟨some 18, none, .idx 1 (.slot 16) (.slot 17)⟩,
  ⟨some 19, none, .load false 1 (.slot 18)⟩,
  ⟨some 20, none, .mov (.slot 1)⟩,
  ⟨some 21, none, .mov (.slot 5)⟩,
  ⟨some 22, none, .idx 1 (.slot 20) (.slot 21)⟩,
  ⟨some 23, none, .load false 1 (.slot 22)⟩,
  ⟨some 24, none, .bin .neq (.slot 19) (.slot 23)⟩]
def q107R7 : List AOper := [⟨some 4, none, .mov (.const (.bool false))⟩]
def q107R8 : List AOper := [⟨some 25, none, .bin .add (.slot 13) (.const (.int .i64 1))⟩,
  ⟨some 13, none, .mov (.slot 25)⟩]
def c_slices_Equal_int_L0 : ACode := (.seq (.region q107R4 false [0, 1, 12, 13, 14]) (.seq (.cond (.slot 14) .skip (.exit 0)) (.seq (.block 1 (.seq (.region q107R5 false [0, 1, 5, 12, 13]) (.seq (.region q107R6 true [0, 1, 12, 13, 24]) (.cond (.slot 24) (.seq (.region q107R7 false [4]) .ret) .skip)))) (.region q107R8 false [0, 1, 12, 13]))))
def lp_slices_Equal_int_0 : ACode := .loop [0, 1, 12, 13] c_slices_Equal_int_L0
def q107R9 : List AOper := [⟨some 4, none, .mov (.const (.bool true))⟩]
def c_slices_Equal_int : AFn := ⟨(.seq (.region q107R0 false [0, 1]) (.seq (.seq (.region q107R1 false [0, 1, 10]) (.cond (.slot 10) (.seq (.region q107R2 false [4]) .ret) .skip)) (.seq (.seq (.region q107R3 false [0, 1, 12, 13]) (.block 0 lp_slices_Equal_int_0)) (.seq (.region q107R9 false [4]) .ret)))), [.slot 4]⟩
/- slices.EqualFunc[[]oriel/api.Typed,[]oriel/api.Typed,oriel/api.Typed,oriel/api.Typed] -/
def q105R0 : List AOper := [⟨some 6, none, .mov (.const (.bool false))⟩]
def q105R1 : List AOper := [⟨some 10, none, .mov (.slot 0)⟩,
  ⟨some 11, none, .len false (.slot 10)⟩,
  ⟨some 12, none, .mov (.slot 1)⟩,
  ⟨some 13, none, .len false (.slot 12)⟩,
  ⟨some 14, none, .bin .neq (.slot 11) (.slot 13)⟩]
def q105R2 : List AOper := [⟨some 6, none, .mov (.const (.bool false))⟩]
def q105R3 : List AOper := [⟨some 15, none, .mov (.slot 0)⟩,
  ⟨some 16, none, .len false (.slot 15)⟩,
  ⟨some 17, none, .mov (.const (.int .i64 0))⟩]
def q105R4 : List AOper := [⟨some 18, none, .bin .lss (.slot 17) (.slot 16)⟩]
def q105R5 : List AOper := [⟨some 19, none, .mov (.slot 17)⟩,
  ⟨some 20, none, .idx 3 (.slot 15) (.slot 17)⟩,
  ⟨some 21, none, .load true 3 (.slot 20)⟩,
  ⟨some 8, none, .alloc [.int .i64 0, .int .i64 0, .data false 1 [] true]⟩,
  ⟨some 7, none, .mov (.slot 19)⟩,
  ⟨none, none, .store true 3 (.slot 8) (.slot 21)⟩]
def q105R6 : List AOper := [⟨some 22, none, .mov (.slot 1)⟩,
  ⟨some 23, none, .mov (.slot 7)⟩,
  ⟨some 24, none, .idx 3 (.slot 22) (.slot 23)⟩,
  ⟨some 25, none, .load true 3 (.slot 24)⟩,
  ⟨some 9, none, .alloc [.int .i64 0, .int .i64 0, .data false 1 [] true]⟩,
  ⟨none, none, .store true 3 (.slot 9) (.slot 25)⟩]
def q105R7 : List AOper := [⟨some 26, none, .mov (.slot 2)⟩,
  ⟨some 27, none, .load true 3 (.slot 8)⟩,
  ⟨some 28, none, .load true 3 (.slot 9)⟩,
  ⟨some 29, none, .callv (.slot 26) [(.slot 27), (.slot 28)]⟩,
  ⟨some 30, none, .not (.slot 29)⟩]
def q105R8 : List AOper := [⟨some 6, none, .mov (.const (.bool false))⟩]
def q105R9 : List AOper := [⟨some 31, none, .bin .add (.slot 17) (.const (.int .i64 1))⟩,
  ⟨some 17, none, .mov (.slot 31)⟩]
def c_slices_EqualFunc_LTyped_LTyped_Typed_Typed_L0 : ACode := (.seq (.region q105R4 false [1, 2, 15, 16, 17, 18]) (.seq (.cond (.slot 18) .skip (.exit 0)) (.seq (.block 1 (.seq (.region q105R5 false [1, 2, 7, 8, 15, 16, 17]) (.seq (.region q105R6 false [1, 2, 8, 9, 15, 16, 17]) (.seq (.region q105R7 false [1, 2, 15, 16, 17, 30]) (.cond (.slot 30) (.seq (.region q105R8 false [6]) .ret) .skip))))) (.region q105R9 false [1, 2, 15, 16, 17]))))
def lp_slices_EqualFunc_LTyped_LTyped_Typed_Typed_0 : ACode := .loop [1, 2, 15, 16, 17] c_slices_EqualFunc_LTyped_LTyped_Typed_Typed_L0
def q105R10 : List AOper := [⟨some 6, none, .mov (.const (.bool true))⟩]
def c_slices_EqualFunc_LTyped_LTyped_Typed_Typed : AFn := ⟨(.seq (.region q105R0 false [0, 1, 2]) (.seq (.seq (.region q105R1 false [0, 1, 2, 14]) (.cond (.slot 14) (.seq (.region q105R2 false [6]) .ret) .skip)) (.seq (.seq (.region q105R3 false [1, 2, 15, 16, 17]) (.block 0 lp_slices_EqualFunc_LTyped_LTyped_Typed_Typed_0)) (.seq (.region q105R10 false [6]) .ret)))), [.slot 6]⟩
/- oriel/session.Same -/
def q74R0 : List AOper := [⟨some 2, none, .box 33 (.slot 0)⟩,
  ⟨some 3, none, .box 33 (.slot 1)⟩,
  ⟨some 4, none, .mov (.const (.bool false))⟩]
def q74R1 : List AOper := [⟨some 5, none, .mov (.func n_session_Same_1)⟩]
def q74R2 : List AOper := ⟨some 6, none, .faddr 0 (.slot 2)⟩ ::
  ⟨some 7, none, .load false 1 (.slot 6)⟩ ::
  ⟨some 8, none, .faddr 0 (.slot 3)⟩ ::
  ⟨some 9, none, .load false 1 (.slot 8)⟩ ::
  ⟨some 10, none, .call .frz n_slices_Equal_Member [(.slot 7), (.slot 9)]⟩ ::
  ⟨some 11, none, .mov (.slot 10)⟩ ::
  ⟨some 12, some (11, true), .faddr 1 (.slot 2)⟩ ::
  ⟨some 13, some (11, true), .faddr 0 (.slot 12)⟩ ::
  ⟨some 14, some (11, true), .load false 1 (.slot 13)⟩ ::
  ⟨some 15, some (11, true), .faddr 1 (.slot 3)⟩ ::
  ⟨some 16, some (11, true), .faddr 0 (.slot 15)⟩ ::
  ⟨some 17, some (11, true), .load false 1 (.slot 16)⟩ ::
  ⟨some 18, some (11, true), .bin .eql (.slot 14) (.slot 17)⟩ ::
  ⟨some 19, none, .pick (.slot 11) (.slot 18) (.const (.bool false))⟩ ::
  ⟨some 20, none, .mov (.slot 19)⟩ ::
  ⟨some 21, some (20, true), .faddr 1 (.slot 2)⟩ ::
  ⟨some 22, some (20, true), .faddr 1 (.slot 21)⟩ ::
  ⟨some 23, some (20, true), .load false 1 (.slot 22)⟩ ::
  ⟨some 24, some (20, true), .faddr 1 (.slot 3)⟩ ::
  ⟨some 25, some (20, true), .faddr 1 (.slot 24)⟩ ::
  ⟨some 26, some (20, true), .load false 1 (.slot 25)⟩ ::
  ⟨some 27, some (20, true), .call .frz n_slices_Equal_int [(.slot 23), (.slot 26)]⟩ ::
  ⟨some 28, none, .pick (.slot 20) (.slot 27) (.const (.bool false))⟩ ::
  ⟨some 29, none, .mov (.slot 28)⟩ ::
  ⟨some 30, some (29, true), .faddr 3 (.slot 2)⟩ ::
  ⟨some 31, some (29, true), .load false 1 (.slot 30)⟩ ::
  ⟨some 32, some (29, true), .faddr 3 (.slot 3)⟩ ::
  ⟨some 33, some (29, true), .load false 1 (.slot 32)⟩ ::
  ⟨some 34, some (29, true), .mov (.slot 5)⟩ ::
  ⟨some 35, some (29, true), .call .inl n_slices_EqualFunc_LTyped_LTyped_Typed_Typed [(.slot 31), (.slot 33), (.slot 34)]⟩ ::
  ⟨some 36, none, .pick (.slot 29) (.slot 35) (.const (.bool false))⟩ ::
  ⟨some 37, none, .mov (.slot 36)⟩ ::
  ⟨some 38, some (37, true), .faddr 4 (.slot 2)⟩ ::
  ⟨some 39, some (37, true), .load true 18 (.slot 38)⟩ ::
  ⟨some 40, some (37, true), .faddr 4 (.slot 3)⟩ ::
  ⟨some 41, some (37, true), .load true 18 (.slot 40)⟩ ::
  ⟨some 42, some (37, true), .eq true [.ki, .ki, .ki, .ki, .ki, .ki, .ki, .ki, .ki, .ki, .ki, .ki, .ki, .ki, .ki, .ki, .ki, .ki] false (.slot 39) (.slot 41)⟩ ::
  ⟨some 43, none, .pick (.slot 37) (.slot 42) (.const (.bool false))⟩ ::
  ⟨some 44, none, .mov (.slot 43)⟩ ::
  ⟨some 45, some (44, true), .faddr 22 (.slot 2)⟩ ::
  ⟨some 46, some (44, true), .load false 1 (.slot 45)⟩ ::
  ⟨some 47, some (44, true), .faddr 22 (.slot 3)⟩ ::
  ⟨some 48, some (44, true), .load false 1 (.slot 47)⟩ ::
  ⟨some 49, some (44, true), .bin .eql (.slot 46) (.slot 48)⟩ ::
  ⟨some 50, none, .pick (.slot 44) (.slot 49) (.const (.bool false))⟩ ::
  ⟨some 51, none, .mov (.slot 50)⟩ ::
  ⟨some 52, some (51, true), .faddr 23 (.slot 2)⟩ ::
  ⟨some 53, some (51, true), .load false 1 (.slot 52)⟩ ::
  ⟨some 54, some (51, true), .faddr 23 (.slot 3)⟩ ::
  ⟨some 55, some (51, true), .load false 1 (.slot 54)⟩ ::
  ⟨some 56, some (51, true), .bin .eql (.slot 53) (.slot 55)⟩ ::
  ⟨some 57, none, .pick (.slot 51) (.slot 56) (.const (.bool false))⟩ ::
  ⟨some 58, none, .mov (.slot 57)⟩ ::
  ⟨some 59, some (58, true), .faddr 24 (.slot 2)⟩ ::
  ⟨some 60, some (58, true), .load true 9 (.slot 59)⟩ ::
  ⟨some 61, some (58, true), .faddr 24 (.slot 3)⟩ ::
  ⟨some 62, some (58, true), .load true 9 (.slot 61)⟩ ::
  ⟨some 63, some (58, true), .eq true [.ki, .ki, .ki, .ki, .ki, .ki, .ki, .ki, .ki] false (.slot 60) (.slot 62)⟩ ::
  ⟨some 64, none, .pick (.slot 58) (.slot 63) (.const (.bool false))⟩ ::
  ⟨some 4, none, .mov (.slot 64)⟩ :: []
def c_session_Same : AFn := ⟨(.seq (.region q74R0 false [2, 3]) (.seq (.region q74R1 false [2, 3, 5]) (.seq (.region q74R2 false [4]) .ret))), [.slot 4]⟩
/- oriel/oriellaw30.SessionMay -/
def q7R0 : List AOper := [⟨some 2, none, .box 33 (.slot 0)⟩,
  ⟨some 3, none, .box 33 (.slot 1)⟩,
  ⟨some 4, none, .mov (.const (.bool false))⟩]
def q7R1 : List AOper := [⟨some 5, none, .call .frz n_law30_known []⟩,
  ⟨some 6, none, .not (.slot 5)⟩]
def q7R2 : List AOper := [⟨some 4, none, .mov (.const (.bool false))⟩]
def q7R3 : List AOper := [⟨some 7, none, .load true 33 (.slot 2)⟩,
  ⟨some 8, none, .call .frz n_law30_great [(.slot 7)]⟩,
  ⟨some 9, none, .mov (.slot 8)⟩,
  ⟨some 10, some (9, false), .load true 33 (.slot 3)⟩,
  ⟨some 11, some (9, false), .call .frz n_law30_great [(.slot 10)]⟩,
  ⟨some 12, none, .pick (.slot 9) (.const (.bool true)) (.slot 11)⟩]
def q7R4 : List AOper := [⟨some 4, none, .mov (.const (.bool true))⟩]
def q7R5 : List AOper := [⟨some 13, none, .load true 33 (.slot 2)⟩,
  ⟨some 14, none, .call .frz n_session_May [(.slot 13)]⟩,
  ⟨some 15, none, .load true 33 (.slot 2)⟩,
  ⟨some 16, none, .call .frz n_ref30_May [(.slot 15)]⟩,
  ⟨some 17, none, .eq false [.kb] false (.slot 14) (.slot 16)⟩,
  ⟨some 18, none, .mov (.slot 17)⟩,
  ⟨some 19, some (18, true), .load true 33 (.slot 2)⟩,
  ⟨some 20, some (18, true), .load true 33 (.slot 3)⟩,
  ⟨some 21, some (18, true), .call .frz n_session_Same [(.slot 19), (.slot 20)]⟩,
  ⟨some 22, some (18, true), .load true 33 (.slot 2)⟩,
  ⟨some 23, some (18, true), .load true 33 (.slot 3)⟩,
  ⟨some 24, some (18, true), .call .frz n_ref30_Same [(.slot 22), (.slot 23)]⟩,
  ⟨some 25, some (18, true), .eq false [.kb] false (.slot 21) (.slot 24)⟩,
  ⟨some 26, none, .pick (.slot 18) (.slot 25) (.const (.bool false))⟩,
  ⟨some 27, none, .mov (.slot 26)⟩,
  ⟨some 28, some (27, true), .load true 33 (.slot 2)⟩,
  ⟨some 29, some (27, true), .load true 33 (.slot 2)⟩,
  ⟨some 30, some (27, true), .call .frz n_ref30_Copy [(.slot 29)]⟩,
  ⟨some 31, some (27, true), .call .frz n_session_Same [(.slot 28), (.slot 30)]⟩,
  ⟨some 32, none, .pick (.slot 27) (.slot 31) (.const (.bool false))⟩,
  ⟨some 33, none, .mov (.slot 32)⟩,
  ⟨some 34, some (33, true), .call .frz n_session_First []⟩,
  ⟨some 35, some (33, true), .build (.data false 2 [] true :: .int .i64 0 :: .data false 1 [] true :: .data false 3 [] true :: .int .i64 0 :: .int .i64 0 :: .int .i64 0 :: .int .i64 0 :: .int .i64 0 :: .int .i64 0 :: .int .i64 0 :: .int .i64 0 :: .int .i64 0 :: .int .i64 0 :: .int .i64 0 :: .int .i64 0 :: .int .i64 0 :: .int .i64 0 :: .int .i64 0 :: .int .i64 0 :: .int .i64 0 :: .int .i64 0 :: .int .i64 0 :: .int .i64 0 :: .int .i64 0 :: .int .i64 0 :: .int .i64 0 :: .int .i64 0 :: .int .i64 0 :: .int .i64 0 :: .int .i64 0 :: .int .i64 0 :: .int .i64 0 :: []) [(22, 1, (.const (.int .i64 24))), (23, 1, (.const (.int .i64 40)))]⟩,
  ⟨some 36, some (33, true), .call .frz n_ref30_Same [(.slot 34), (.slot 35)]⟩,
  ⟨some 37, none, .pick (.slot 33) (.slot 36) (.const (.bool false))⟩,
  ⟨some 4, none, .mov (.slot 37)⟩]
def c_law30_SessionMay : AFn := ⟨(.seq (.region q7R0 false [2, 3]) (.seq (.seq (.region q7R1 false [2, 3, 6]) (.cond (.slot 6) (.seq (.region q7R2 false [4]) .ret) .skip)) (.seq (.seq (.region q7R3 false [2, 3, 12]) (.cond (.slot 12) (.seq (.region q7R4 false [4]) .ret) .skip)) (.seq (.region q7R5 true [4]) .ret)))), [.slot 4]⟩
/-- The seat's functions. -/
def FT : Nat → Option AEnt
  | 109 => some (.fn c_slices_IndexFunc_Member)
  | 93 => some (.fn c_slices_ContainsFunc_Member)
  | 66 => some (.fn c_roster_role)
  | 94 => some (.fn c_roster_May_1)
  | 52 => some (.fn c_roster_May)
  | 100 => some (.fn c_slices_BinarySearchFunc_Member_int)
  | 101 => some (.fn c_roster_place_1)
  | 67 => some (.fn c_roster_place)
  | 30 => some (.fn c_roster_Find)
  | 95 => some (.fn c_token_number)
  | 53 => some (.fn c_token_May)
  | 96 => some (.fn c_merge_piece)
  | 54 => some (.fn c_merge_May)
  | 115 => some (.fn c_size_side)
  | 97 => some (.fn c_size_window)
  | 55 => some (.fn c_size_May)
  | 56 => some (.fn c_session_writes)
  | 98 => some (.fn c_slices_IndexFunc_int)
  | 57 => some (.fn c_slices_ContainsFunc_int)
  | 58 => some (.fn c_session_May_1)
  | 99 => some (.fn c_slices_IndexFunc_Typed)
  | 59 => some (.fn c_slices_ContainsFunc_Typed)
  | 60 => some (.fn c_session_May_2)
  | 22 => some (.fn c_session_May)
  | 68 => some (.ext (extInsert 2))
  | 69 => some (.ext (extClone 2))
  | 26 => some (.fn c_roster_Join)
  | 121 => some (.ext (extClone 1))
  | 84 => some (.fn c_merge_copied)
  | 33 => some (.fn c_merge_Pop)
  | 83 => some (.ext (extClone 1))
  | 32 => some (.fn c_session_copied)
  | 104 => some (.fn c_slices_DeleteFunc_Typed)
  | 105 => some (.fn c_merge_Drop_1)
  | 70 => some (.fn c_merge_Drop)
  | 132 => some (.fn c_token_arbiter_on)
  | 117 => some (.fn c_token_change)
  | 131 => some (.fn c_slices_Index_int)
  | 125 => some (.fn c_slices_Contains_int)
  | 124 => some (.fn c_token_Keep_1)
  | 127 => some (.fn c_slices_DeleteFunc_int)
  | 126 => some (.fn c_token_Keep_2)
  | 106 => some (.fn c_token_Keep)
  | 107 => some (.fn c_roster_Writers)
  | 114 => some (.fn c_size_member)
  | 108 => some (.fn c_size_Least)
  | 71 => some (.fn c_session_settled)
  | 27 => some (.fn c_session_with)
  | 8 => some (.fn c_session_Join)
  | 72 => some (.fn c_slices_DeleteFunc_Member)
  | 73 => some (.fn c_roster_Leave_1)
  | 28 => some (.fn c_roster_Leave)
  | 9 => some (.fn c_session_Leave)
  | 29 => some (.fn c_roster_Change)
  | 10 => some (.fn c_session_Change)
  | 128 => some (.fn c_slices_IndexFunc_Deed)
  | 110 => some (.fn c_slices_ContainsFunc_Deed)
  | 129 => some (.fn c_input_may_1)
  | 112 => some (.fn c_input_may)
  | 111 => some (.fn c_input_May_1)
  | 74 => some (.fn c_input_May)
  | 113 => some (.ext (extSize))
  | 76 => some (.fn c_merge_Push)
  | 75 => some (.fn c_session_does_1)
  | 78 => some (.fn c_size_Set)
  | 77 => some (.fn c_session_does_2)
  | 116 => some (.fn c_token_Place)
  | 118 => some (.fn c_token_Ask_1)
  | 80 => some (.fn c_token_Ask)
  | 79 => some (.fn c_session_does_3)
  | 120 => some (.fn c_slices_Delete_int)
  | 119 => some (.fn c_token_Free_1)
  | 82 => some (.fn c_token_Free)
  | 81 => some (.fn c_session_does_4)
  | 31 => some (.fn c_session_does)
  | 11 => some (.fn c_session_Take)
  | 12 => some (.fn c_session_Write)
  | 24 => some (.fn c_session_First)
  | 5 => some (.fn c_law30_known)
  | 6 => some (.fn c_law30_great)
  | 25 => some (.fn c_ref28_Copy)
  | 7 => some (.fn c_ref30_Copy)
  | 21 => some (.fn c_ref28_Same)
  | 34 => some (.fn c_ref26_Same)
  | 35 => some (.fn c_ref27_Same)
  | 13 => some (.fn c_ref30_Same)
  | 85 => some (.fn c_ref20_List)
  | 36 => some (.fn c_ref26_May)
  | 40 => some (.fn c_ref27_All)
  | 86 => some (.fn c_ref27_Has)
  | 37 => some (.fn c_ref27_May)
  | 48 => some (.fn c_ref28_Size)
  | 87 => some (.fn c_ref28_Piece)
  | 38 => some (.fn c_ref28_May)
  | 39 => some (.fn c_ref29_May)
  | 41 => some (.fn c_ref26_Role)
  | 14 => some (.fn c_ref30_May)
  | 62 => some (.fn c_bytes_Equal)
  | 61 => some (.fn c_session_Same_1)
  | 63 => some (.fn c_slices_Equal_Member)
  | 64 => some (.fn c_slices_Equal_int)
  | 65 => some (.fn c_slices_EqualFunc_LTyped_LTyped_Typed_Typed)
  | 23 => some (.fn c_session_Same)
  | 4 => some (.fn c_law30_SessionMay)
  | _ => none
variable (G : Nat → Option (List AV)) (args : List AV) (h : List ARow)
theorem run_slices_IndexFunc_Member : aR G FT n_slices_IndexFunc_Member args h = (aE G FT h.length c_slices_IndexFunc_Member.body ⟨aenter args, h⟩).bind (afinish c_slices_IndexFunc_Member.res) := y_fn G FT rfl args h
theorem run_slices_ContainsFunc_Member : aR G FT n_slices_ContainsFunc_Member args h = (aE G FT h.length c_slices_ContainsFunc_Member.body ⟨aenter args, h⟩).bind (afinish c_slices_ContainsFunc_Member.res) := y_fn G FT rfl args h
theorem run_roster_role : aR G FT n_roster_role args h = (aE G FT h.length c_roster_role.body ⟨aenter args, h⟩).bind (afinish c_roster_role.res) := y_fn G FT rfl args h
theorem run_roster_May_1 : aR G FT n_roster_May_1 args h = (aE G FT h.length c_roster_May_1.body ⟨aenter args, h⟩).bind (afinish c_roster_May_1.res) := y_fn G FT rfl args h
theorem run_roster_May : aR G FT n_roster_May args h = (aE G FT h.length c_roster_May.body ⟨aenter args, h⟩).bind (afinish c_roster_May.res) := y_fn G FT rfl args h
theorem run_slices_BinarySearchFunc_Member_int : aR G FT n_slices_BinarySearchFunc_Member_int args h = (aE G FT h.length c_slices_BinarySearchFunc_Member_int.body ⟨aenter args, h⟩).bind (afinish c_slices_BinarySearchFunc_Member_int.res) := y_fn G FT rfl args h
theorem run_roster_place_1 : aR G FT n_roster_place_1 args h = (aE G FT h.length c_roster_place_1.body ⟨aenter args, h⟩).bind (afinish c_roster_place_1.res) := y_fn G FT rfl args h
theorem run_roster_place : aR G FT n_roster_place args h = (aE G FT h.length c_roster_place.body ⟨aenter args, h⟩).bind (afinish c_roster_place.res) := y_fn G FT rfl args h
theorem run_roster_Find : aR G FT n_roster_Find args h = (aE G FT h.length c_roster_Find.body ⟨aenter args, h⟩).bind (afinish c_roster_Find.res) := y_fn G FT rfl args h
theorem run_token_number : aR G FT n_token_number args h = (aE G FT h.length c_token_number.body ⟨aenter args, h⟩).bind (afinish c_token_number.res) := y_fn G FT rfl args h
theorem run_token_May : aR G FT n_token_May args h = (aE G FT h.length c_token_May.body ⟨aenter args, h⟩).bind (afinish c_token_May.res) := y_fn G FT rfl args h
theorem run_size_side : aR G FT n_size_side args h = (aE G FT h.length c_size_side.body ⟨aenter args, h⟩).bind (afinish c_size_side.res) := y_fn G FT rfl args h
theorem run_size_window : aR G FT n_size_window args h = (aE G FT h.length c_size_window.body ⟨aenter args, h⟩).bind (afinish c_size_window.res) := y_fn G FT rfl args h
theorem run_size_May : aR G FT n_size_May args h = (aE G FT h.length c_size_May.body ⟨aenter args, h⟩).bind (afinish c_size_May.res) := y_fn G FT rfl args h
theorem run_session_writes : aR G FT n_session_writes args h = (aE G FT h.length c_session_writes.body ⟨aenter args, h⟩).bind (afinish c_session_writes.res) := y_fn G FT rfl args h
theorem run_slices_IndexFunc_int : aR G FT n_slices_IndexFunc_int args h = (aE G FT h.length c_slices_IndexFunc_int.body ⟨aenter args, h⟩).bind (afinish c_slices_IndexFunc_int.res) := y_fn G FT rfl args h
theorem run_slices_ContainsFunc_int : aR G FT n_slices_ContainsFunc_int args h = (aE G FT h.length c_slices_ContainsFunc_int.body ⟨aenter args, h⟩).bind (afinish c_slices_ContainsFunc_int.res) := y_fn G FT rfl args h
theorem run_session_May_1 : aR G FT n_session_May_1 args h = (aE G FT h.length c_session_May_1.body ⟨aenter args, h⟩).bind (afinish c_session_May_1.res) := y_fn G FT rfl args h
theorem run_slices_IndexFunc_Typed : aR G FT n_slices_IndexFunc_Typed args h = (aE G FT h.length c_slices_IndexFunc_Typed.body ⟨aenter args, h⟩).bind (afinish c_slices_IndexFunc_Typed.res) := y_fn G FT rfl args h
theorem run_slices_ContainsFunc_Typed : aR G FT n_slices_ContainsFunc_Typed args h = (aE G FT h.length c_slices_ContainsFunc_Typed.body ⟨aenter args, h⟩).bind (afinish c_slices_ContainsFunc_Typed.res) := y_fn G FT rfl args h
theorem run_session_May_2 : aR G FT n_session_May_2 args h = (aE G FT h.length c_session_May_2.body ⟨aenter args, h⟩).bind (afinish c_session_May_2.res) := y_fn G FT rfl args h
theorem run_session_May : aR G FT n_session_May args h = (aE G FT h.length c_session_May.body ⟨aenter args, h⟩).bind (afinish c_session_May.res) := y_fn G FT rfl args h
theorem run_session_First : aR G FT n_session_First args h = (aE G FT h.length c_session_First.body ⟨aenter args, h⟩).bind (afinish c_session_First.res) := y_fn G FT rfl args h
theorem run_law30_great : aR G FT n_law30_great args h = (aE G FT h.length c_law30_great.body ⟨aenter args, h⟩).bind (afinish c_law30_great.res) := y_fn G FT rfl args h
theorem run_ref28_Copy : aR G FT n_ref28_Copy args h = (aE G FT h.length c_ref28_Copy.body ⟨aenter args, h⟩).bind (afinish c_ref28_Copy.res) := y_fn G FT rfl args h
theorem run_ref30_Copy : aR G FT n_ref30_Copy args h = (aE G FT h.length c_ref30_Copy.body ⟨aenter args, h⟩).bind (afinish c_ref30_Copy.res) := y_fn G FT rfl args h
theorem run_ref28_Same : aR G FT n_ref28_Same args h = (aE G FT h.length c_ref28_Same.body ⟨aenter args, h⟩).bind (afinish c_ref28_Same.res) := y_fn G FT rfl args h
theorem run_ref26_Same : aR G FT n_ref26_Same args h = (aE G FT h.length c_ref26_Same.body ⟨aenter args, h⟩).bind (afinish c_ref26_Same.res) := y_fn G FT rfl args h
theorem run_ref27_Same : aR G FT n_ref27_Same args h = (aE G FT h.length c_ref27_Same.body ⟨aenter args, h⟩).bind (afinish c_ref27_Same.res) := y_fn G FT rfl args h
theorem run_ref30_Same : aR G FT n_ref30_Same args h = (aE G FT h.length c_ref30_Same.body ⟨aenter args, h⟩).bind (afinish c_ref30_Same.res) := y_fn G FT rfl args h
theorem run_ref20_List : aR G FT n_ref20_List args h = (aE G FT h.length c_ref20_List.body ⟨aenter args, h⟩).bind (afinish c_ref20_List.res) := y_fn G FT rfl args h
theorem run_ref26_May : aR G FT n_ref26_May args h = (aE G FT h.length c_ref26_May.body ⟨aenter args, h⟩).bind (afinish c_ref26_May.res) := y_fn G FT rfl args h
theorem run_ref27_All : aR G FT n_ref27_All args h = (aE G FT h.length c_ref27_All.body ⟨aenter args, h⟩).bind (afinish c_ref27_All.res) := y_fn G FT rfl args h
theorem run_ref27_Has : aR G FT n_ref27_Has args h = (aE G FT h.length c_ref27_Has.body ⟨aenter args, h⟩).bind (afinish c_ref27_Has.res) := y_fn G FT rfl args h
theorem run_ref27_May : aR G FT n_ref27_May args h = (aE G FT h.length c_ref27_May.body ⟨aenter args, h⟩).bind (afinish c_ref27_May.res) := y_fn G FT rfl args h
theorem run_ref28_Size : aR G FT n_ref28_Size args h = (aE G FT h.length c_ref28_Size.body ⟨aenter args, h⟩).bind (afinish c_ref28_Size.res) := y_fn G FT rfl args h
theorem run_ref28_Piece : aR G FT n_ref28_Piece args h = (aE G FT h.length c_ref28_Piece.body ⟨aenter args, h⟩).bind (afinish c_ref28_Piece.res) := y_fn G FT rfl args h
theorem run_ref28_May : aR G FT n_ref28_May args h = (aE G FT h.length c_ref28_May.body ⟨aenter args, h⟩).bind (afinish c_ref28_May.res) := y_fn G FT rfl args h
theorem run_ref29_May : aR G FT n_ref29_May args h = (aE G FT h.length c_ref29_May.body ⟨aenter args, h⟩).bind (afinish c_ref29_May.res) := y_fn G FT rfl args h
theorem run_ref26_Role : aR G FT n_ref26_Role args h = (aE G FT h.length c_ref26_Role.body ⟨aenter args, h⟩).bind (afinish c_ref26_Role.res) := y_fn G FT rfl args h
theorem run_ref30_May : aR G FT n_ref30_May args h = (aE G FT h.length c_ref30_May.body ⟨aenter args, h⟩).bind (afinish c_ref30_May.res) := y_fn G FT rfl args h
theorem run_bytes_Equal : aR G FT n_bytes_Equal args h = (aE G FT h.length c_bytes_Equal.body ⟨aenter args, h⟩).bind (afinish c_bytes_Equal.res) := y_fn G FT rfl args h
theorem run_session_Same_1 : aR G FT n_session_Same_1 args h = (aE G FT h.length c_session_Same_1.body ⟨aenter args, h⟩).bind (afinish c_session_Same_1.res) := y_fn G FT rfl args h
theorem run_slices_Equal_Member : aR G FT n_slices_Equal_Member args h = (aE G FT h.length c_slices_Equal_Member.body ⟨aenter args, h⟩).bind (afinish c_slices_Equal_Member.res) := y_fn G FT rfl args h
theorem run_slices_Equal_int : aR G FT n_slices_Equal_int args h = (aE G FT h.length c_slices_Equal_int.body ⟨aenter args, h⟩).bind (afinish c_slices_Equal_int.res) := y_fn G FT rfl args h
theorem run_slices_EqualFunc_LTyped_LTyped_Typed_Typed : aR G FT n_slices_EqualFunc_LTyped_LTyped_Typed_Typed args h = (aE G FT h.length c_slices_EqualFunc_LTyped_LTyped_Typed_Typed.body ⟨aenter args, h⟩).bind (afinish c_slices_EqualFunc_LTyped_LTyped_Typed_Typed.res) := y_fn G FT rfl args h
theorem run_session_Same : aR G FT n_session_Same args h = (aE G FT h.length c_session_Same.body ⟨aenter args, h⟩).bind (afinish c_session_Same.res) := y_fn G FT rfl args h
theorem run_law30_SessionMay : aR G FT n_law30_SessionMay args h = (aE G FT h.length c_law30_SessionMay.body ⟨aenter args, h⟩).bind (afinish c_law30_SessionMay.res) := y_fn G FT rfl args h
end Go.Proofs.YthcnhibjddomdaaGreat
