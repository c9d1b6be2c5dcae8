/- The small machine's code of the seat's functions. Conditions: none. -/
import Derived.Test.YtfnonledcniojaaM3
set_option linter.unusedVariables false
set_option linter.unusedSimpArgs false
set_option linter.unusedSectionVars false
namespace Go.Proofs.Ytfnonledcniojaa
open Go

def n_law26_RosterAlone : Nat := 12
def n_law26_known : Nat := 42
def n_roster_Change : Nat := 50
def n_roster_Find : Nat := 44
def n_roster_Join : Nat := 48
def n_roster_Leave : Nat := 49
def n_roster_Leave_1 : Nat := 81
def n_roster_May : Nat := 46
def n_roster_May_1 : Nat := 76
def n_roster_Writers : Nat := 47
def n_roster_place : Nat := 74
def n_roster_place_1 : Nat := 89
def n_roster_role : Nat := 77
def n_slices_BinarySearchFunc_Member_int : Nat := 88
def n_slices_Clone_Member : Nat := 79
def n_slices_ContainsFunc_Member : Nat := 75
def n_slices_DeleteFunc_Member : Nat := 80
def n_slices_IndexFunc_Member : Nat := 90
def n_slices_Insert_Member : Nat := 78
def n_slices_overlaps_Member : Nat := 91
def n_slices_rotateRight_Member : Nat := 92
/- slices.IndexFunc[[]oriel/api.Member,oriel/api.Member] -/
def q71R0 : List AOper := [⟨some 4, none, .mov (.const (.int .i64 0))⟩]
def q71R1 : List AOper := [⟨some 6, none, .mov (.slot 0)⟩,
  ⟨some 7, none, .len false (.slot 6)⟩,
  ⟨some 8, none, .mov (.const (.int .i64 0))⟩]
def q71R2 : List AOper := [⟨some 9, none, .bin .lss (.slot 8) (.slot 7)⟩]
def q71R3 : List AOper := [⟨some 10, none, .mov (.slot 8)⟩,
  ⟨some 5, none, .mov (.slot 10)⟩]
def q71R4 : List AOper := [⟨some 11, none, .mov (.slot 1)⟩,
  ⟨some 12, none, .mov (.slot 0)⟩,
  ⟨some 13, none, .mov (.slot 5)⟩,
  ⟨some 14, none, .idx 2 (.slot 12) (.slot 13)⟩,
  ⟨some 15, none, .load true 2 (.slot 14)⟩,
  ⟨some 16, none, .callv (.slot 11) [(.slot 15)]⟩]
def q71R5 : List AOper := [⟨some 17, none, .mov (.slot 5)⟩,
  ⟨some 4, none, .mov (.slot 17)⟩]
def q71R6 : List AOper := [⟨some 18, none, .bin .add (.slot 8) (.const (.int .i64 1))⟩,
  ⟨some 8, none, .mov (.slot 18)⟩]
def c_slices_IndexFunc_Member_L0 : ACode := (.seq (.region q71R2 false [0, 1, 7, 8, 9]) (.seq (.cond (.slot 9) .skip (.exit 0)) (.seq (.block 1 (.seq (.region q71R3 false [0, 1, 5, 7, 8]) (.seq (.region q71R4 false [0, 1, 5, 7, 8, 16]) (.cond (.slot 16) (.seq (.region q71R5 false [4]) .ret) .skip)))) (.region q71R6 false [0, 1, 7, 8]))))
def lp_slices_IndexFunc_Member_0 : ACode := .loop [0, 1, 7, 8] c_slices_IndexFunc_Member_L0
def q71R7 : List AOper := [⟨some 4, none, .mov (.const (.int .i64 (-1)))⟩]
def c_slices_IndexFunc_Member : AFn := ⟨(.seq (.region q71R0 false [0, 1]) (.seq (.seq (.region q71R1 false [0, 1, 7, 8]) (.block 0 lp_slices_IndexFunc_Member_0)) (.seq (.region q71R7 false [4]) .ret))), [.slot 4]⟩
/- slices.ContainsFunc[[]oriel/api.Member,oriel/api.Member] -/
def q65R0 : List AOper := [⟨some 4, none, .mov (.const (.bool false))⟩]
def q65R1 : List AOper := [⟨some 5, none, .mov (.slot 0)⟩,
  ⟨some 6, none, .mov (.slot 1)⟩,
  ⟨some 7, none, .call .inl n_slices_IndexFunc_Member [(.slot 5), (.slot 6)]⟩,
  ⟨some 8, none, .bin .geq (.slot 7) (.const (.int .i64 0))⟩,
  ⟨some 4, none, .mov (.slot 8)⟩]
def c_slices_ContainsFunc_Member : AFn := ⟨(.seq (.region q65R0 false [0, 1]) (.seq (.region q65R1 false [4]) .ret)), [.slot 4]⟩
/- oriel/roster.role -/
def q61R0 : List AOper := [⟨some 2, none, .mov (.const (.bool false))⟩]
def q61R1 : List AOper := [⟨some 3, none, .mov (.slot 0)⟩,
  ⟨some 4, none, .bin .eql (.slot 3) (.const (.int .i64 1))⟩,
  ⟨some 5, none, .mov (.slot 4)⟩,
  ⟨some 6, some (5, false), .mov (.slot 0)⟩,
  ⟨some 7, some (5, false), .bin .eql (.slot 6) (.const (.int .i64 2))⟩,
  ⟨some 8, none, .pick (.slot 5) (.const (.bool true)) (.slot 7)⟩,
  ⟨some 2, none, .mov (.slot 8)⟩]
def c_roster_role : AFn := ⟨(.seq (.region q61R0 false [0]) (.seq (.region q61R1 false [2]) .ret)), [.slot 2]⟩
/- oriel/roster.May'1 -/
def q57R0 : List AOper := [⟨some 2, none, .box 2 (.slot 0)⟩,
  ⟨some 3, none, .mov (.const (.bool false))⟩]
def q57R1 : List AOper := [⟨some 5, none, .faddr 0 (.slot 2)⟩,
  ⟨some 6, none, .load false 1 (.slot 5)⟩,
  ⟨some 7, none, .load false 1 (.slot 1)⟩,
  ⟨some 8, none, .bin .leq (.slot 6) (.slot 7)⟩,
  ⟨some 9, none, .mov (.slot 8)⟩,
  ⟨some 10, some (9, false), .faddr 0 (.slot 2)⟩,
  ⟨some 11, some (9, false), .load false 1 (.slot 10)⟩,
  ⟨some 12, some (9, false), .bin .gtr (.slot 11) (.const (.int .i64 8))⟩,
  ⟨some 13, none, .pick (.slot 9) (.const (.bool true)) (.slot 12)⟩,
  ⟨some 14, none, .mov (.slot 13)⟩,
  ⟨some 15, some (14, false), .faddr 1 (.slot 2)⟩,
  ⟨some 16, some (14, false), .load false 1 (.slot 15)⟩,
  ⟨some 17, some (14, false), .call .frz n_roster_role [(.slot 16)]⟩,
  ⟨some 18, some (14, false), .not (.slot 17)⟩,
  ⟨some 19, none, .pick (.slot 14) (.const (.bool true)) (.slot 18)⟩,
  ⟨some 4, none, .mov (.slot 19)⟩]
def q57R2 : List AOper := [⟨some 20, none, .faddr 0 (.slot 2)⟩,
  ⟨some 21, none, .load false 1 (.slot 20)⟩,
  ⟨none, none, .store false 1 (.slot 1) (.slot 21)⟩]
def q57R3 : List AOper := [⟨some 22, none, .mov (.slot 4)⟩,
  ⟨some 3, none, .mov (.slot 22)⟩]
def c_roster_May_1 : AFn := ⟨(.seq (.region q57R0 false [1, 2]) (.seq (.region q57R1 false [1, 2, 4]) (.seq (.region q57R2 false [4]) (.seq (.region q57R3 false [3]) .ret)))), [.slot 3]⟩
/- oriel/roster.May -/
def q56R0 : List AOper := [⟨some 2, none, .mov (.const (.bool false))⟩]
def q56R1 : List AOper := [⟨some 3, none, .alloc [.int .i64 0]⟩,
  ⟨none, none, .store false 1 (.slot 3) (.const (.int .i64 0))⟩]
def q56R2 : List AOper := [⟨some 4, none, .mov (.slot 0)⟩,
  ⟨some 5, none, .mkfn (.func n_roster_May_1) [] [(.slot 3)]⟩,
  ⟨some 6, none, .call .inl n_slices_ContainsFunc_Member [(.slot 4), (.slot 5)]⟩,
  ⟨some 7, none, .not (.slot 6)⟩,
  ⟨some 2, none, .mov (.slot 7)⟩]
def c_roster_May : AFn := ⟨(.seq (.region q56R0 false [0]) (.seq (.region q56R1 false [0, 3]) (.seq (.region q56R2 false [2]) .ret))), [.slot 2]⟩
/- slices.BinarySearchFunc[[]oriel/api.Member,oriel/api.Member,int] -/
def q62R0 : List AOper := [⟨some 6, none, .mov (.const (.int .i64 0))⟩,
  ⟨some 7, none, .mov (.const (.bool false))⟩]
def q62R1 : List AOper := [⟨some 12, none, .mov (.slot 0)⟩,
  ⟨some 13, none, .len false (.slot 12)⟩,
  ⟨some 8, none, .mov (.slot 13)⟩]
def q62R2 : List AOper := [⟨some 14, none, .mov (.slot 8)⟩,
  ⟨some 9, none, .mov (.const (.int .i64 0))⟩,
  ⟨some 10, none, .mov (.slot 14)⟩]
def q62R3 : List AOper := [⟨some 15, none, .mov (.slot 9)⟩,
  ⟨some 16, none, .mov (.slot 10)⟩,
  ⟨some 17, none, .bin .lss (.slot 15) (.slot 16)⟩]
def q62R4 : List AOper := [⟨some 18, none, .mov (.slot 9)⟩,
  ⟨some 19, none, .mov (.slot 10)⟩,
  ⟨some 20, none, .bin .add (.slot 18) (.slot 19)⟩,
  ⟨some 21, none, .conv .u64 (.slot 20)⟩,
  ⟨some 22, none, .bin .shr (.slot 21) (.const (.int .u64 1))⟩,
  ⟨some 23, none, .conv .i64 (.slot 22)⟩,
  ⟨some 11, none, .mov (.slot 23)⟩]
def q62R5 : List AOper := [⟨some 24, none, .mov (.slot 2)⟩,
  ⟨some 25, none, .mov (.slot 0)⟩,
  ⟨some 26, none, .mov (.slot 11)⟩,
  ⟨some 27, none, .idx 2 (.slot 25) (.slot 26)⟩,
  ⟨some 28, none, .load true 2 (.slot 27)⟩,
  ⟨some 29, none, .mov (.slot 1)⟩,
  ⟨some 30, none, .callv (.slot 24) [(.slot 28), (.slot 29)]⟩,
  ⟨some 31, none, .bin .lss (.slot 30) (.const (.int .i64 0))⟩]
def q62R6 : List AOper := [⟨some 32, none, .mov (.slot 11)⟩,
  ⟨some 33, none, .bin .add (.slot 32) (.const (.int .i64 1))⟩,
  ⟨some 9, none, .mov (.slot 33)⟩]
def q62R7 : List AOper := [⟨some 34, none, .mov (.slot 11)⟩,
  ⟨some 10, none, .mov (.slot 34)⟩]
def c_slices_BinarySearchFunc_Member_int_L0 : ACode := (.seq (.seq (.region q62R3 false [0, 1, 2, 8, 9, 10, 17]) (.cond (.slot 17) .skip (.exit 0))) (.block 1 (.seq (.region q62R4 false [0, 1, 2, 8, 9, 10, 11]) (.seq (.region q62R5 false [0, 1, 2, 8, 9, 10, 11, 31]) (.cond (.slot 31) (.region q62R6 false [0, 1, 2, 8, 9, 10]) (.region q62R7 false [0, 1, 2, 8, 9, 10]))))))
def lp_slices_BinarySearchFunc_Member_int_0 : ACode := .loop [0, 1, 2, 8, 9, 10] c_slices_BinarySearchFunc_Member_int_L0
def q62R8 : List AOper := [⟨some 35, none, .mov (.slot 9)⟩,
  ⟨some 36, none, .mov (.slot 9)⟩,
  ⟨some 37, none, .mov (.slot 8)⟩,
  ⟨some 38, none, .bin .lss (.slot 36) (.slot 37)⟩,
  ⟨some 39, none, .mov (.slot 38)⟩,
  ⟨some 40, some (39, true), .mov (.slot 2)⟩,
  ⟨some 41, some (39, true), .mov (.slot 0)⟩,
  ⟨some 42, some (39, true), .mov (.slot 9)⟩,
  ⟨some 43, some (39, true), .idx 2 (.slot 41) (.slot 42)⟩,
  ⟨some 44, some (39, true), .load true 2 (.slot 43)⟩,
  ⟨some 45, some (39, true), .mov (.slot 1)⟩,
  ⟨some 46, some (39, true), .callv (.slot 40) [(.slot 44), (.slot 45)]⟩,
  ⟨some 47, some (39, true), .bin .eql (.slot 46) (.const (.int .i64 0))⟩,
  ⟨some 48, none, .pick (.slot 39) (.slot 47) (.const (.bool false))⟩,
  ⟨some 6, none, .mov (.slot 35)⟩,
  ⟨some 7, none, .mov (.slot 48)⟩]
def c_slices_BinarySearchFunc_Member_int : AFn := ⟨(.seq (.region q62R0 false [0, 1, 2]) (.seq (.region q62R1 false [0, 1, 2, 8]) (.seq (.region q62R2 false [0, 1, 2, 8, 9, 10]) (.seq (.block 0 lp_slices_BinarySearchFunc_Member_int_0) (.seq (.region q62R8 false [6, 7]) .ret))))), [.slot 6, .slot 7]⟩
/- oriel/roster.place'1 -/
def q60R0 : List AOper := [⟨some 2, none, .box 2 (.slot 0)⟩,
  ⟨some 4, none, .mov (.const (.int .i64 0))⟩]
def q60R1 : List AOper := [⟨some 5, none, .faddr 0 (.slot 2)⟩,
  ⟨some 6, none, .load false 1 (.slot 5)⟩,
  ⟨some 7, none, .mov (.slot 1)⟩,
  ⟨some 8, none, .bin .sub (.slot 6) (.slot 7)⟩,
  ⟨some 4, none, .mov (.slot 8)⟩]
def c_roster_place_1 : AFn := ⟨(.seq (.region q60R0 false [1, 2]) (.seq (.region q60R1 false [4]) .ret)), [.slot 4]⟩
/- oriel/roster.place -/
def q59R0 : List AOper := [⟨some 4, none, .mov (.const (.int .i64 0))⟩,
  ⟨some 5, none, .mov (.const (.bool false))⟩]
def q59R1 : List AOper := [⟨some 6, none, .mov (.slot 0)⟩,
  ⟨some 7, none, .mov (.slot 1)⟩,
  ⟨some 8, none, .call .inl n_slices_BinarySearchFunc_Member_int [(.slot 6), (.slot 7), (.func n_roster_place_1)]⟩,
  ⟨some 9, none, .extract 0 (.slot 8)⟩,
  ⟨some 10, none, .extract 1 (.slot 8)⟩,
  ⟨some 4, none, .mov (.slot 9)⟩,
  ⟨some 5, none, .mov (.slot 10)⟩]
def c_roster_place : AFn := ⟨(.seq (.region q59R0 false [0, 1]) (.seq (.region q59R1 false [4, 5]) .ret)), [.slot 4, .slot 5]⟩
/- oriel/roster.Find -/
def q52R0 : List AOper := [⟨some 4, none, .alloc [.int .i64 0, .int .i64 0]⟩,
  ⟨some 5, none, .mov (.const (.bool false))⟩]
def q52R1 : List AOper := [⟨some 8, none, .mov (.slot 0)⟩,
  ⟨some 9, none, .call .frz n_roster_May [(.slot 8)]⟩,
  ⟨some 10, none, .not (.slot 9)⟩,
  ⟨some 11, none, .mov (.slot 10)⟩,
  ⟨some 12, some (11, false), .mov (.slot 1)⟩,
  ⟨some 13, some (11, false), .bin .lss (.slot 12) (.const (.int .i64 1))⟩,
  ⟨some 14, none, .pick (.slot 11) (.const (.bool true)) (.slot 13)⟩,
  ⟨some 15, none, .mov (.slot 14)⟩,
  ⟨some 16, some (15, false), .mov (.slot 1)⟩,
  ⟨some 17, some (15, false), .bin .gtr (.slot 16) (.const (.int .i64 8))⟩,
  ⟨some 18, none, .pick (.slot 15) (.const (.bool true)) (.slot 17)⟩]
def q52R2 : List AOper := [⟨some 19, none, .build [.int .i64 0, .int .i64 0] []⟩,
  ⟨none, none, .store true 2 (.slot 4) (.slot 19)⟩,
  ⟨some 5, none, .mov (.const (.bool false))⟩]
def q52R3 : List AOper := [⟨some 21, none, .mov (.slot 0)⟩,
  ⟨some 22, none, .mov (.slot 1)⟩,
  ⟨some 23, none, .call .frz n_roster_place [(.slot 21), (.slot 22)]⟩,
  ⟨some 20, none, .mov (.slot 23)⟩,
  ⟨some 24, none, .extract 0 (.slot 20)⟩,
  ⟨some 25, none, .extract 1 (.slot 20)⟩,
  ⟨some 6, none, .mov (.slot 24)⟩,
  ⟨some 7, none, .mov (.slot 25)⟩]
def q52R4 : List AOper := [⟨some 26, none, .mov (.slot 7)⟩]
def q52R5 : List AOper := [⟨some 27, none, .mov (.slot 0)⟩,
  ⟨some 28, none, .mov (.slot 6)⟩,
  ⟨some 29, none, .idx 2 (.slot 27) (.slot 28)⟩,
  ⟨some 30, none, .load true 2 (.slot 29)⟩,
  ⟨none, none, .store true 2 (.slot 4) (.slot 30)⟩,
  ⟨some 5, none, .mov (.const (.bool true))⟩]
def q52R6 : List AOper := [⟨some 31, none, .build [.int .i64 0, .int .i64 0] []⟩,
  ⟨none, none, .store true 2 (.slot 4) (.slot 31)⟩,
  ⟨some 5, none, .mov (.const (.bool false))⟩]
def c_roster_Find : AFn := ⟨(.seq (.region q52R0 false [0, 1, 4]) (.seq (.seq (.region q52R1 false [0, 1, 4, 18]) (.cond (.slot 18) (.seq (.region q52R2 false [4, 5]) .ret) .skip)) (.seq (.seq (.region q52R3 false [0, 4, 6, 7]) (.seq (.region q52R4 false [0, 4, 6, 26]) (.cond (.slot 26) (.seq (.region q52R5 false [4, 5]) .ret) .skip))) (.seq (.region q52R6 false [4, 5]) .ret)))), [.cell 4 true 2, .slot 5]⟩
/- oriel/roster.Writers -/
def q58R0 : List AOper := [⟨some 2, none, .mov (.const (.data false 1 [] true))⟩]
def q58R1 : List AOper := [⟨some 6, none, .mov (.slot 0)⟩,
  ⟨some 7, none, .call .frz n_roster_May [(.slot 6)]⟩,
  ⟨some 8, none, .not (.slot 7)⟩]
def q58R2 : List AOper := [⟨some 2, none, .mov (.const (.data false 1 [] true))⟩]
def q58R3 : List AOper := [⟨some 3, none, .mknil 1⟩]
def q58R4 : List AOper := [⟨some 9, none, .mov (.slot 0)⟩,
  ⟨some 10, none, .len false (.slot 9)⟩,
  ⟨some 11, none, .mov (.const (.int .i64 0))⟩]
def q58R5 : List AOper := [⟨some 12, none, .bin .lss (.slot 11) (.slot 10)⟩]
def q58R6 : List AOper := [⟨some 13, none, .idx 2 (.slot 9) (.slot 11)⟩,
  ⟨some 14, none, .load true 2 (.slot 13)⟩,
  ⟨some 5, none, .alloc [.int .i64 0, .int .i64 0]⟩,
  ⟨none, none, .store true 2 (.slot 5) (.slot 14)⟩]
def q58R7 : List AOper := [⟨some 15, none, .faddr 1 (.slot 5)⟩,
  ⟨some 16, none, .load false 1 (.slot 15)⟩,
  ⟨some 17, none, .bin .eql (.slot 16) (.const (.int .i64 2))⟩]
def q58R8 : List AOper := [⟨some 18, none, .mov (.slot 3)⟩,
  ⟨some 19, none, .faddr 0 (.slot 5)⟩,
  ⟨some 20, none, .load false 1 (.slot 19)⟩,
  ⟨some 21, none, .mkslice 1 1 [.int .i64 0] [(0, (.slot 20))]⟩,
  ⟨some 22, none, .append 1 8 (.slot 18) (.slot 21)⟩,
  ⟨some 3, none, .mov (.slot 22)⟩]
def q58R9 : List AOper := [⟨some 23, none, .bin .add (.slot 11) (.const (.int .i64 1))⟩,
  ⟨some 11, none, .mov (.slot 23)⟩]
def c_roster_Writers_L0 : ACode := (.seq (.region q58R5 false [3, 9, 10, 11, 12]) (.seq (.cond (.slot 12) .skip (.exit 0)) (.seq (.block 1 (.seq (.region q58R6 false [3, 5, 9, 10, 11]) (.seq (.region q58R7 false [3, 5, 9, 10, 11, 17]) (.cond (.slot 17) (.region q58R8 false [3, 9, 10, 11]) .skip)))) (.region q58R9 false [3, 9, 10, 11]))))
def lp_roster_Writers_0 : ACode := .loop [3, 9, 10, 11] c_roster_Writers_L0
def q58R10 : List AOper := [⟨some 24, none, .mov (.slot 3)⟩,
  ⟨some 2, none, .mov (.slot 24)⟩]
def c_roster_Writers : AFn := ⟨(.seq (.region q58R0 false [0]) (.seq (.seq (.region q58R1 false [0, 8]) (.cond (.slot 8) (.seq (.region q58R2 false [2]) .ret) .skip)) (.seq (.region q58R3 false [0, 3]) (.seq (.seq (.region q58R4 false [3, 9, 10, 11]) (.block 0 lp_roster_Writers_0)) (.seq (.region q58R10 false [2]) .ret))))), [.slot 2]⟩
/- slices.Insert[[]oriel/api.Member,oriel/api.Member] -/
def q75R0 : List AOper := [⟨some 6, none, .mov (.const (.data false 2 [] true))⟩]
def q75R1 : List AOper := [⟨some 10, none, .mov (.slot 0)⟩,
  ⟨some 11, none, .mov (.slot 1)⟩,
  ⟨some 12, none, .sl 2 (.slot 10) (some (.slot 11)) none none⟩]
def q75R2 : List AOper := [⟨some 13, none, .mov (.slot 2)⟩,
  ⟨some 14, none, .len false (.slot 13)⟩,
  ⟨some 7, none, .mov (.slot 14)⟩]
def q75R3 : List AOper := [⟨some 15, none, .mov (.slot 7)⟩,
  ⟨some 16, none, .bin .eql (.slot 15) (.const (.int .i64 0))⟩]
def q75R4 : List AOper := [⟨some 17, none, .mov (.slot 0)⟩,
  ⟨some 6, none, .mov (.slot 17)⟩]
def q75R5 : List AOper := [⟨some 18, none, .mov (.slot 0)⟩,
  ⟨some 19, none, .len false (.slot 18)⟩,
  ⟨some 8, none, .mov (.slot 19)⟩]
def q75R6 : List AOper := [⟨some 20, none, .mov (.slot 1)⟩,
  ⟨some 21, none, .mov (.slot 8)⟩,
  ⟨some 22, none, .bin .eql (.slot 20) (.slot 21)⟩]
def q75R7 : List AOper := [⟨some 23, none, .mov (.slot 0)⟩,
  ⟨some 24, none, .mov (.slot 2)⟩,
  ⟨some 25, none, .append 2 16 (.slot 23) (.slot 24)⟩,
  ⟨some 6, none, .mov (.slot 25)⟩]
def q75R10 : List AOper := [⟨some 41, none, .mov (.slot 9)⟩,
  ⟨some 42, none, .mov (.slot 1)⟩,
  ⟨some 43, none, .sl 2 (.slot 41) (some (.slot 42)) none none⟩,
  ⟨some 44, none, .mov (.slot 2)⟩,
  ⟨some 45, none, .copy 2 (.slot 43) (.slot 44)⟩]
def q75R11 : List AOper := [⟨some 46, none, .mov (.slot 9)⟩,
  ⟨some 47, none, .mov (.slot 1)⟩,
  ⟨some 48, none, .mov (.slot 7)⟩,
  ⟨some 49, none, .bin .add (.slot 47) (.slot 48)⟩,
  ⟨some 50, none, .sl 2 (.slot 46) (some (.slot 49)) none none⟩,
  ⟨some 51, none, .mov (.slot 0)⟩,
  ⟨some 52, none, .mov (.slot 1)⟩,
  ⟨some 53, none, .sl 2 (.slot 51) (some (.slot 52)) none none⟩,
  ⟨some 54, none, .copy 2 (.slot 50) (.slot 53)⟩]
def q75R12 : List AOper := [⟨some 55, none, .mov (.slot 9)⟩,
  ⟨some 6, none, .mov (.slot 55)⟩]
def q75R13 : List AOper := [⟨some 56, none, .mov (.slot 0)⟩,
  ⟨some 57, none, .mov (.slot 8)⟩,
  ⟨some 58, none, .mov (.slot 7)⟩,
  ⟨some 59, none, .bin .add (.slot 57) (.slot 58)⟩,
  ⟨some 60, none, .sl 2 (.slot 56) none (some (.slot 59)) none⟩,
  ⟨some 0, none, .mov (.slot 60)⟩]
def q75R14 : List AOper := [⟨some 61, none, .mov (.slot 2)⟩,
  ⟨some 62, none, .mov (.slot 0)⟩,
  ⟨some 63, none, .mov (.slot 1)⟩,
  ⟨some 64, none, .mov (.slot 7)⟩,
  ⟨some 65, none, .bin .add (.slot 63) (.slot 64)⟩,
  ⟨some 66, none, .sl 2 (.slot 62) (some (.slot 65)) none none⟩,
  ⟨some 67, none, .call .frz n_slices_overlaps_Member [(.slot 61), (.slot 66)]⟩,
  ⟨some 68, none, .not (.slot 67)⟩]
def q75R15 : List AOper := [⟨some 69, none, .mov (.slot 0)⟩,
  ⟨some 70, none, .mov (.slot 1)⟩,
  ⟨some 71, none, .mov (.slot 7)⟩,
  ⟨some 72, none, .bin .add (.slot 70) (.slot 71)⟩,
  ⟨some 73, none, .sl 2 (.slot 69) (some (.slot 72)) none none⟩,
  ⟨some 74, none, .mov (.slot 0)⟩,
  ⟨some 75, none, .mov (.slot 1)⟩,
  ⟨some 76, none, .sl 2 (.slot 74) (some (.slot 75)) none none⟩,
  ⟨some 77, none, .copy 2 (.slot 73) (.slot 76)⟩]
def q75R16 : List AOper := [⟨some 78, none, .mov (.slot 0)⟩,
  ⟨some 79, none, .mov (.slot 1)⟩,
  ⟨some 80, none, .sl 2 (.slot 78) (some (.slot 79)) none none⟩,
  ⟨some 81, none, .mov (.slot 2)⟩,
  ⟨some 82, none, .copy 2 (.slot 80) (.slot 81)⟩]
def q75R17 : List AOper := [⟨some 83, none, .mov (.slot 0)⟩,
  ⟨some 6, none, .mov (.slot 83)⟩]
def q75R18 : List AOper := [⟨some 84, none, .mov (.slot 0)⟩,
  ⟨some 85, none, .mov (.slot 8)⟩,
  ⟨some 86, none, .sl 2 (.slot 84) (some (.slot 85)) none none⟩,
  ⟨some 87, none, .mov (.slot 2)⟩,
  ⟨some 88, none, .copy 2 (.slot 86) (.slot 87)⟩]
def q75R19 : List AOper := [⟨some 89, none, .mov (.slot 0)⟩,
  ⟨some 90, none, .mov (.slot 1)⟩,
  ⟨some 91, none, .sl 2 (.slot 89) (some (.slot 90)) none none⟩,
  ⟨some 92, none, .mov (.slot 7)⟩,
  ⟨some 93, none, .call .frz n_slices_rotateRight_Member [(.slot 91), (.slot 92)]⟩]
def q75R20 : List AOper := [⟨some 94, none, .mov (.slot 0)⟩,
  ⟨some 6, none, .mov (.slot 94)⟩]
def c_slices_Insert_Member : AFn := ⟨(.seq (.region q75R0 false [0, 1, 2]) (.seq (.region q75R1 false [0, 1, 2]) (.seq (.region q75R2 false [0, 1, 2, 7]) (.seq (.seq (.region q75R3 false [0, 1, 2, 7, 16]) (.cond (.slot 16) (.seq (.region q75R4 false [6]) .ret) .skip)) (.seq (.region q75R5 false [0, 1, 2, 7, 8]) (.seq (.seq (.region q75R6 false [0, 1, 2, 7, 8, 22]) (.cond (.slot 22) (.seq (.region q75R7 false [6]) .ret) .skip)) (.seq (.seq .dead (.cond (.slot 31) (.seq .dead (.seq (.region q75R10 false [0, 1, 7, 9]) (.seq (.region q75R11 true [9]) (.seq (.region q75R12 false [6]) .ret)))) .skip)) (.seq (.region q75R13 false [0, 1, 2, 7, 8]) (.seq (.seq (.region q75R14 false [0, 1, 2, 7, 8, 68]) (.cond (.slot 68) (.seq (.region q75R15 true [0, 1, 2]) (.seq (.region q75R16 false [0]) (.seq (.region q75R17 false [6]) .ret))) .skip)) (.seq (.region q75R18 false [0, 1, 7]) (.seq (.region q75R19 false [0]) (.seq (.region q75R20 false [6]) .ret)))))))))))), [.slot 6]⟩
/- slices.Clone[[]oriel/api.Member,oriel/api.Member] -/
def q63R0 : List AOper := [⟨some 2, none, .mov (.const (.data false 2 [] true))⟩]
def q63R1 : List AOper := [⟨some 3, none, .mov (.slot 0)⟩,
  ⟨some 4, none, .isnil .ks false (.slot 3)⟩]
def q63R2 : List AOper := [⟨some 2, none, .mov (.const (.data false 2 [] true))⟩]
def q63R3 : List AOper := [⟨some 5, none, .mkslice 2 0 [.int .i64 0, .int .i64 0] []⟩,
  ⟨some 6, none, .mov (.slot 0)⟩,
  ⟨some 7, none, .append 2 16 (.slot 5) (.slot 6)⟩,
  ⟨some 2, none, .mov (.slot 7)⟩]
def c_slices_Clone_Member : AFn := ⟨(.seq (.region q63R0 false [0]) (.seq (.seq (.region q63R1 false [0, 4]) (.cond (.slot 4) (.seq (.region q63R2 false [2]) .ret) .skip)) (.seq (.region q63R3 false [2]) .ret))), [.slot 2]⟩
/- oriel/roster.Join -/
def q53R0 : List AOper := [⟨some 6, none, .mov (.const (.data false 2 [] true))⟩,
  ⟨some 7, none, .mov (.const (.int .i64 0))⟩]
def q53R1 : List AOper := [⟨some 10, none, .mov (.slot 0)⟩,
  ⟨some 11, none, .call .frz n_roster_May [(.slot 10)]⟩,
  ⟨some 12, none, .not (.slot 11)⟩,
  ⟨some 13, none, .mov (.slot 12)⟩,
  ⟨some 14, some (13, false), .mov (.slot 1)⟩,
  ⟨some 15, some (13, false), .bin .lss (.slot 14) (.const (.int .i64 1))⟩,
  ⟨some 16, none, .pick (.slot 13) (.const (.bool true)) (.slot 15)⟩,
  ⟨some 17, none, .mov (.slot 16)⟩,
  ⟨some 18, some (17, false), .mov (.slot 1)⟩,
  ⟨some 19, some (17, false), .bin .gtr (.slot 18) (.const (.int .i64 8))⟩,
  ⟨some 20, none, .pick (.slot 17) (.const (.bool true)) (.slot 19)⟩,
  ⟨some 21, none, .mov (.slot 20)⟩,
  ⟨some 22, some (21, false), .mov (.slot 2)⟩,
  ⟨some 23, some (21, false), .call .frz n_roster_role [(.slot 22)]⟩,
  ⟨some 24, some (21, false), .not (.slot 23)⟩,
  ⟨some 25, none, .pick (.slot 21) (.const (.bool true)) (.slot 24)⟩]
def q53R2 : List AOper := [⟨some 6, none, .mov (.const (.data false 2 [] true))⟩,
  ⟨some 7, none, .mov (.const (.int .i64 2))⟩]
def q53R3 : List AOper := [⟨some 27, none, .mov (.slot 0)⟩,
  ⟨some 28, none, .mov (.slot 1)⟩,
  ⟨some 29, none, .call .frz n_roster_place [(.slot 27), (.slot 28)]⟩,
  ⟨some 26, none, .mov (.slot 29)⟩,
  ⟨some 30, none, .extract 0 (.slot 26)⟩,
  ⟨some 31, none, .extract 1 (.slot 26)⟩,
  ⟨some 8, none, .mov (.slot 30)⟩,
  ⟨some 9, none, .mov (.slot 31)⟩]
def q53R4 : List AOper := [⟨some 32, none, .mov (.slot 9)⟩]
def q53R5 : List AOper := [⟨some 6, none, .mov (.const (.data false 2 [] true))⟩,
  ⟨some 7, none, .mov (.const (.int .i64 260))⟩]
def q53R6 : List AOper := [⟨some 33, none, .mov (.slot 0)⟩,
  ⟨some 34, none, .call .adp n_slices_Clone_Member [(.slot 33)]⟩,
  ⟨some 35, none, .mov (.slot 8)⟩,
  ⟨some 36, none, .mov (.slot 1)⟩,
  ⟨some 37, none, .mov (.slot 2)⟩,
  ⟨some 38, none, .build [.int .i64 0, .int .i64 0] [(0, 1, (.slot 36)), (1, 1, (.slot 37))]⟩,
  ⟨some 39, none, .mkslice 2 1 [.int .i64 0, .int .i64 0] [(0, (.slot 38))]⟩,
  ⟨some 40, none, .call .inl n_slices_Insert_Member [(.slot 34), (.slot 35), (.slot 39)]⟩,
  ⟨some 6, none, .mov (.slot 40)⟩,
  ⟨some 7, none, .mov (.const (.int .i64 0))⟩]
def c_roster_Join : AFn := ⟨(.seq (.region q53R0 false [0, 1, 2]) (.seq (.seq (.region q53R1 false [0, 1, 2, 25]) (.cond (.slot 25) (.seq (.region q53R2 false [6, 7]) .ret) .skip)) (.seq (.region q53R3 false [0, 1, 2, 8, 9]) (.seq (.seq (.region q53R4 false [0, 1, 2, 8, 32]) (.cond (.slot 32) (.seq (.region q53R5 false [6, 7]) .ret) .skip)) (.seq (.region q53R6 false [6, 7]) .ret))))), [.slot 6, .slot 7]⟩
/- slices.DeleteFunc[[]oriel/api.Member,oriel/api.Member] -/
def q67R0 : List AOper := [⟨some 4, none, .mov (.const (.data false 2 [] true))⟩]
def q67R1 : List AOper := [⟨some 8, none, .mov (.slot 0)⟩,
  ⟨some 9, none, .mov (.slot 1)⟩,
  ⟨some 10, none, .call .inl n_slices_IndexFunc_Member [(.slot 8), (.slot 9)]⟩,
  ⟨some 5, none, .mov (.slot 10)⟩]
def q67R2 : List AOper := [⟨some 11, none, .mov (.slot 5)⟩,
  ⟨some 12, none, .bin .eql (.slot 11) (.const (.int .i64 (-1)))⟩]
def q67R3 : List AOper := [⟨some 13, none, .mov (.slot 0)⟩,
  ⟨some 4, none, .mov (.slot 13)⟩]
def q67R4 : List AOper := [⟨some 14, none, .mov (.slot 5)⟩,
  ⟨some 15, none, .bin .add (.slot 14) (.const (.int .i64 1))⟩,
  ⟨some 6, none, .mov (.slot 15)⟩]
def q67R5 : List AOper := [⟨some 16, none, .mov (.slot 6)⟩,
  ⟨some 17, none, .mov (.slot 0)⟩,
  ⟨some 18, none, .len false (.slot 17)⟩,
  ⟨some 19, none, .bin .lss (.slot 16) (.slot 18)⟩]
def q67R7 : List AOper := [⟨some 22, none, .mov (.slot 0)⟩,
  ⟨some 23, none, .mov (.slot 6)⟩,
  ⟨some 24, none, .idx 2 (.slot 22) (.slot 23)⟩,
  ⟨some 25, none, .load true 2 (.slot 24)⟩,
  ⟨some 7, none, .alloc [.int .i64 0, .int .i64 0]⟩,
  ⟨none, none, .store true 2 (.slot 7) (.slot 25)⟩]
def q67R8 : List AOper := [⟨some 26, none, .mov (.slot 1)⟩,
  ⟨some 27, none, .load true 2 (.slot 7)⟩,
  ⟨some 28, none, .callv (.slot 26) [(.slot 27)]⟩,
  ⟨some 29, none, .not (.slot 28)⟩]
def q67R9 : List AOper := [⟨some 30, none, .mov (.slot 0)⟩,
  ⟨some 31, none, .mov (.slot 5)⟩,
  ⟨some 32, none, .load true 2 (.slot 7)⟩,
  ⟨some 33, none, .idx 2 (.slot 30) (.slot 31)⟩,
  ⟨none, none, .store true 2 (.slot 33) (.slot 32)⟩]
def q67R10 : List AOper := [⟨some 34, none, .mov (.slot 5)⟩,
  ⟨some 35, none, .bin .add (.slot 34) (.const (.int .i64 1))⟩,
  ⟨some 5, none, .mov (.slot 35)⟩]
def q67R6 : List AOper := [⟨some 20, none, .mov (.slot 6)⟩,
  ⟨some 21, none, .bin .add (.slot 20) (.const (.int .i64 1))⟩,
  ⟨some 6, none, .mov (.slot 21)⟩]
def c_slices_DeleteFunc_Member_L0 : ACode := (.seq (.seq (.region q67R5 false [0, 1, 5, 6, 19]) (.cond (.slot 19) .skip (.exit 0))) (.seq (.block 1 (.seq (.region q67R7 false [0, 1, 5, 6, 7]) (.seq (.region q67R8 false [0, 1, 5, 6, 7, 29]) (.cond (.slot 29) (.seq (.region q67R9 false [0, 1, 5, 6]) (.region q67R10 false [0, 1, 5, 6])) .skip)))) (.region q67R6 false [0, 1, 5, 6])))
def lp_slices_DeleteFunc_Member_0 : ACode := .loop [0, 1, 5, 6] c_slices_DeleteFunc_Member_L0
def q67R11 : List AOper := [⟨some 36, none, .mov (.slot 0)⟩,
  ⟨some 37, none, .mov (.slot 5)⟩,
  ⟨some 38, none, .sl 2 (.slot 36) (some (.slot 37)) none none⟩,
  ⟨none, none, .clear [.int .i64 0, .int .i64 0] (.slot 38)⟩]
def q67R12 : List AOper := [⟨some 39, none, .mov (.slot 0)⟩,
  ⟨some 40, none, .mov (.slot 5)⟩,
  ⟨some 41, none, .sl 2 (.slot 39) none (some (.slot 40)) none⟩,
  ⟨some 4, none, .mov (.slot 41)⟩]
def c_slices_DeleteFunc_Member : AFn := ⟨(.seq (.region q67R0 false [0, 1]) (.seq (.region q67R1 false [0, 1, 5]) (.seq (.seq (.region q67R2 false [0, 1, 5, 12]) (.cond (.slot 12) (.seq (.region q67R3 false [4]) .ret) .skip)) (.seq (.seq (.region q67R4 false [0, 1, 5, 6]) (.block 0 lp_slices_DeleteFunc_Member_0)) (.seq (.region q67R11 false [0, 5]) (.seq (.region q67R12 false [4]) .ret)))))), [.slot 4]⟩
/- oriel/roster.Leave'1 -/
def q55R0 : List AOper := [⟨some 2, none, .box 2 (.slot 0)⟩,
  ⟨some 3, none, .mov (.const (.bool false))⟩]
def q55R1 : List AOper := [⟨some 4, none, .load true 2 (.slot 2)⟩,
  ⟨some 5, none, .load true 2 (.slot 1)⟩,
  ⟨some 6, none, .eq true [.ki, .ki] false (.slot 4) (.slot 5)⟩,
  ⟨some 3, none, .mov (.slot 6)⟩]
def c_roster_Leave_1 : AFn := ⟨(.seq (.region q55R0 false [1, 2]) (.seq (.region q55R1 false [3]) .ret)), [.slot 3]⟩
/- oriel/roster.Leave -/
def q54R0 : List AOper := [⟨some 4, none, .mov (.const (.data false 2 [] true))⟩,
  ⟨some 5, none, .mov (.const (.int .i64 0))⟩]
def q54R1 : List AOper := [⟨some 8, none, .mov (.slot 0)⟩,
  ⟨some 9, none, .call .frz n_roster_May [(.slot 8)]⟩,
  ⟨some 10, none, .not (.slot 9)⟩]
def q54R2 : List AOper := [⟨some 4, none, .mov (.const (.data false 2 [] true))⟩,
  ⟨some 5, none, .mov (.const (.int .i64 2))⟩]
def q54R3 : List AOper := [⟨some 12, none, .mov (.slot 0)⟩,
  ⟨some 13, none, .mov (.slot 1)⟩,
  ⟨some 14, none, .call .frz n_roster_Find [(.slot 12), (.slot 13)]⟩,
  ⟨some 11, none, .mov (.slot 14)⟩,
  ⟨some 15, none, .extract 0 (.slot 11)⟩,
  ⟨some 16, none, .extract 1 (.slot 11)⟩,
  ⟨some 6, none, .alloc [.int .i64 0, .int .i64 0]⟩,
  ⟨none, none, .store true 2 (.slot 6) (.slot 15)⟩,
  ⟨some 7, none, .mov (.slot 16)⟩]
def q54R4 : List AOper := [⟨some 17, none, .mov (.slot 7)⟩,
  ⟨some 18, none, .not (.slot 17)⟩]
def q54R5 : List AOper := [⟨some 4, none, .mov (.const (.data false 2 [] true))⟩,
  ⟨some 5, none, .mov (.const (.int .i64 6))⟩]
def q54R6 : List AOper := [⟨some 19, none, .mov (.slot 0)⟩,
  ⟨some 20, none, .call .adp n_slices_Clone_Member [(.slot 19)]⟩,
  ⟨some 21, none, .mkfn (.func n_roster_Leave_1) [] [(.slot 6)]⟩,
  ⟨some 22, none, .call .inl n_slices_DeleteFunc_Member [(.slot 20), (.slot 21)]⟩,
  ⟨some 4, none, .mov (.slot 22)⟩,
  ⟨some 5, none, .mov (.const (.int .i64 0))⟩]
def c_roster_Leave : AFn := ⟨(.seq (.region q54R0 false [0, 1]) (.seq (.seq (.region q54R1 false [0, 1, 10]) (.cond (.slot 10) (.seq (.region q54R2 false [4, 5]) .ret) .skip)) (.seq (.region q54R3 false [0, 6, 7]) (.seq (.seq (.region q54R4 false [0, 6, 18]) (.cond (.slot 18) (.seq (.region q54R5 false [4, 5]) .ret) .skip)) (.seq (.region q54R6 false [4, 5]) .ret))))), [.slot 4, .slot 5]⟩
/- oriel/oriellaw26.known -/
def q5R0 : List AOper := [⟨some 0, none, .mov (.const (.bool false))⟩]
def q5R1 : List AOper := [⟨some 10, none, .build [.int .i64 0, .int .i64 0] [(0, 1, (.const (.int .i64 2))), (1, 1, (.const (.int .i64 1)))]⟩,
  ⟨some 11, none, .mkslice 2 1 [.int .i64 0, .int .i64 0] [(0, (.slot 10))]⟩,
  ⟨some 12, none, .call .frz n_roster_Join [(.slot 11), (.const (.int .i64 3)), (.const (.int .i64 2))]⟩,
  ⟨some 9, none, .mov (.slot 12)⟩,
  ⟨some 13, none, .extract 0 (.slot 9)⟩,
  ⟨some 14, none, .extract 1 (.slot 9)⟩,
  ⟨some 1, none, .mov (.slot 13)⟩,
  ⟨some 2, none, .mov (.slot 14)⟩]
def q5R2 : List AOper := [⟨some 16, none, .mov (.slot 1)⟩,
  ⟨some 17, none, .call .frz n_roster_Join [(.slot 16), (.const (.int .i64 2)), (.const (.int .i64 2))]⟩,
  ⟨some 15, none, .mov (.slot 17)⟩,
  ⟨some 18, none, .extract 0 (.slot 15)⟩,
  ⟨some 19, none, .extract 1 (.slot 15)⟩,
  ⟨some 3, none, .mov (.slot 18)⟩,
  ⟨some 4, none, .mov (.slot 19)⟩]
def q5R3 : List AOper := [⟨some 21, none, .mov (.slot 1)⟩,
  ⟨some 22, none, .call .frz n_roster_Leave [(.slot 21), (.const (.int .i64 4))]⟩,
  ⟨some 20, none, .mov (.slot 22)⟩,
  ⟨some 23, none, .extract 0 (.slot 20)⟩,
  ⟨some 24, none, .extract 1 (.slot 20)⟩,
  ⟨some 5, none, .mov (.slot 23)⟩,
  ⟨some 6, none, .mov (.slot 24)⟩]
def q5R4 : List AOper := [⟨some 26, none, .mov (.slot 1)⟩,
  ⟨some 27, none, .call .frz n_roster_Find [(.slot 26), (.const (.int .i64 3))]⟩,
  ⟨some 25, none, .mov (.slot 27)⟩,
  ⟨some 28, none, .extract 0 (.slot 25)⟩,
  ⟨some 29, none, .extract 1 (.slot 25)⟩,
  ⟨some 7, none, .alloc [.int .i64 0, .int .i64 0]⟩,
  ⟨none, none, .store true 2 (.slot 7) (.slot 28)⟩,
  ⟨some 8, none, .mov (.slot 29)⟩]
def q5R5 : List AOper := ⟨some 30, none, .mov (.slot 2)⟩ ::
  ⟨some 31, none, .bin .eql (.slot 30) (.const (.int .i64 0))⟩ ::
  ⟨some 32, none, .mov (.slot 31)⟩ ::
  ⟨some 33, some (32, true), .mov (.slot 4)⟩ ::
  ⟨some 34, some (32, true), .bin .eql (.slot 33) (.const (.int .i64 260))⟩ ::
  ⟨some 35, none, .pick (.slot 32) (.slot 34) (.const (.bool false))⟩ ::
  ⟨some 36, none, .mov (.slot 35)⟩ ::
  ⟨some 37, some (36, true), .mov (.slot 6)⟩ ::
  ⟨some 38, some (36, true), .bin .eql (.slot 37) (.const (.int .i64 6))⟩ ::
  ⟨some 39, none, .pick (.slot 36) (.slot 38) (.const (.bool false))⟩ ::
  ⟨some 40, none, .mov (.slot 39)⟩ ::
  ⟨some 41, some (40, true), .mov (.slot 8)⟩ ::
  ⟨some 42, none, .pick (.slot 40) (.slot 41) (.const (.bool false))⟩ ::
  ⟨some 43, none, .mov (.slot 42)⟩ ::
  ⟨some 44, some (43, true), .load true 2 (.slot 7)⟩ ::
  ⟨some 45, some (43, true), .build [.int .i64 0, .int .i64 0] [(0, 1, (.const (.int .i64 3))), (1, 1, (.const (.int .i64 2)))]⟩ ::
  ⟨some 46, some (43, true), .eq true [.ki, .ki] false (.slot 44) (.slot 45)⟩ ::
  ⟨some 47, none, .pick (.slot 43) (.slot 46) (.const (.bool false))⟩ ::
  ⟨some 48, none, .mov (.slot 47)⟩ ::
  ⟨some 49, some (48, true), .mov (.slot 1)⟩ ::
  ⟨some 50, some (48, true), .len false (.slot 49)⟩ ::
  ⟨some 51, some (48, true), .bin .eql (.slot 50) (.const (.int .i64 2))⟩ ::
  ⟨some 52, none, .pick (.slot 48) (.slot 51) (.const (.bool false))⟩ ::
  ⟨some 53, none, .mov (.slot 52)⟩ ::
  ⟨some 54, some (53, true), .mov (.slot 1)⟩ ::
  ⟨some 55, some (53, true), .call .frz n_roster_Writers [(.slot 54)]⟩ ::
  ⟨some 56, some (53, true), .len false (.slot 55)⟩ ::
  ⟨some 57, some (53, true), .bin .eql (.slot 56) (.const (.int .i64 1))⟩ ::
  ⟨some 58, none, .pick (.slot 53) (.slot 57) (.const (.bool false))⟩ ::
  ⟨some 0, none, .mov (.slot 58)⟩ :: []
def c_law26_known : AFn := ⟨(.seq (.region q5R0 false []) (.seq (.region q5R1 false [1, 2]) (.seq (.region q5R2 false [1, 2, 4]) (.seq (.region q5R3 false [1, 2, 4, 6]) (.seq (.region q5R4 false [1, 2, 4, 6, 7, 8]) (.seq (.region q5R5 false [0]) .ret)))))), [.slot 0]⟩
/- oriel/roster.Change -/
def q51R0 : List AOper := [⟨some 6, none, .mov (.const (.data false 2 [] true))⟩,
  ⟨some 7, none, .mov (.const (.int .i64 0))⟩]
def q51R1 : List AOper := [⟨some 13, none, .mov (.slot 0)⟩,
  ⟨some 14, none, .call .frz n_roster_May [(.slot 13)]⟩,
  ⟨some 15, none, .not (.slot 14)⟩,
  ⟨some 16, none, .mov (.slot 15)⟩,
  ⟨some 17, some (16, false), .mov (.slot 2)⟩,
  ⟨some 18, some (16, false), .call .frz n_roster_role [(.slot 17)]⟩,
  ⟨some 19, some (16, false), .not (.slot 18)⟩,
  ⟨some 20, none, .pick (.slot 16) (.const (.bool true)) (.slot 19)⟩]
def q51R2 : List AOper := [⟨some 6, none, .mov (.const (.data false 2 [] true))⟩,
  ⟨some 7, none, .mov (.const (.int .i64 2))⟩]
def q51R3 : List AOper := [⟨some 22, none, .mov (.slot 0)⟩,
  ⟨some 23, none, .mov (.slot 1)⟩,
  ⟨some 24, none, .call .frz n_roster_Find [(.slot 22), (.slot 23)]⟩,
  ⟨some 21, none, .mov (.slot 24)⟩,
  ⟨some 25, none, .extract 0 (.slot 21)⟩,
  ⟨some 26, none, .extract 1 (.slot 21)⟩,
  ⟨some 8, none, .alloc [.int .i64 0, .int .i64 0]⟩,
  ⟨none, none, .store true 2 (.slot 8) (.slot 25)⟩,
  ⟨some 9, none, .mov (.slot 26)⟩]
def q51R4 : List AOper := [⟨some 27, none, .mov (.slot 9)⟩,
  ⟨some 28, none, .not (.slot 27)⟩]
def q51R5 : List AOper := [⟨some 6, none, .mov (.const (.data false 2 [] true))⟩,
  ⟨some 7, none, .mov (.const (.int .i64 6))⟩]
def q51R6 : List AOper := [⟨some 29, none, .mov (.slot 0)⟩,
  ⟨some 30, none, .call .adp n_slices_Clone_Member [(.slot 29)]⟩,
  ⟨some 10, none, .mov (.slot 30)⟩]
def q51R7 : List AOper := [⟨some 32, none, .mov (.slot 0)⟩,
  ⟨some 33, none, .mov (.slot 1)⟩,
  ⟨some 34, none, .call .frz n_roster_place [(.slot 32), (.slot 33)]⟩,
  ⟨some 31, none, .mov (.slot 34)⟩,
  ⟨some 35, none, .extract 0 (.slot 31)⟩,
  ⟨some 36, none, .extract 1 (.slot 31)⟩,
  ⟨some 11, none, .mov (.slot 35)⟩,
  ⟨some 12, none, .mov (.slot 36)⟩]
def q51R8 : List AOper := [⟨some 37, none, .mov (.slot 10)⟩,
  ⟨some 38, none, .mov (.slot 11)⟩,
  ⟨some 39, none, .mov (.slot 2)⟩,
  ⟨some 40, none, .idx 2 (.slot 37) (.slot 38)⟩,
  ⟨some 41, none, .faddr 1 (.slot 40)⟩,
  ⟨none, none, .store false 1 (.slot 41) (.slot 39)⟩]
def q51R9 : List AOper := [⟨some 42, none, .mov (.slot 10)⟩,
  ⟨some 6, none, .mov (.slot 42)⟩,
  ⟨some 7, none, .mov (.const (.int .i64 0))⟩]
def c_roster_Change : AFn := ⟨(.seq (.region q51R0 false [0, 1, 2]) (.seq (.seq (.region q51R1 false [0, 1, 2, 20]) (.cond (.slot 20) (.seq (.region q51R2 false [6, 7]) .ret) .skip)) (.seq (.seq (.region q51R3 false [0, 1, 2, 9]) (.seq (.region q51R4 false [0, 1, 2, 28]) (.cond (.slot 28) (.seq (.region q51R5 false [6, 7]) .ret) .skip))) (.seq (.region q51R6 false [0, 1, 2, 10]) (.seq (.region q51R7 false [2, 10, 11]) (.seq (.region q51R8 false [10]) (.seq (.region q51R9 false [6, 7]) .ret))))))), [.slot 6, .slot 7]⟩
/- oriel/oriellaw26.RosterAlone -/
def q1R0 : List AOper := [⟨some 2, none, .mov (.const (.bool false))⟩]
def q1R1 : List AOper := [⟨some 12, none, .call .frz n_law26_known []⟩,
  ⟨some 13, none, .not (.slot 12)⟩]
def q1R2 : List AOper := [⟨some 2, none, .mov (.const (.bool false))⟩]
def q1R3 : List AOper := [⟨some 14, none, .mov (.slot 0)⟩,
  ⟨some 15, none, .len false (.slot 14)⟩,
  ⟨some 16, none, .bin .gtr (.slot 15) (.const (.int .i64 100))⟩]
def q1R4 : List AOper := [⟨some 2, none, .mov (.const (.bool true))⟩]
def q1R5 : List AOper := [⟨some 3, none, .mov (.const (.data false 2 [] true))⟩]
def q1R6 : List AOper := [⟨some 4, none, .mov (.const (.int .i64 0))⟩]
def q1R7 : List AOper := [⟨some 17, none, .mov (.slot 4)⟩,
  ⟨some 18, none, .mov (.slot 0)⟩,
  ⟨some 19, none, .len false (.slot 18)⟩,
  ⟨some 20, none, .bin .lss (.slot 17) (.slot 19)⟩]
def q1R9 : List AOper := [⟨some 5, none, .mov (.const (.data false 2 [] true))⟩]
def q1R10 : List AOper := [⟨some 6, none, .mov (.const (.int .i64 2))⟩]
def q1R11 : List AOper := [⟨some 23, none, .mov (.slot 0)⟩,
  ⟨some 24, none, .mov (.slot 4)⟩,
  ⟨some 25, none, .idx 3 (.slot 23) (.slot 24)⟩,
  ⟨some 26, none, .faddr 0 (.slot 25)⟩,
  ⟨some 27, none, .load false 1 (.slot 26)⟩]
def q1R12 : List AOper := [⟨some 29, none, .bin .eql (.slot 27) (.const (.int .i64 0))⟩,
  ⟨some 28, none, .mov (.slot 29)⟩]
def q1R13 : List AOper := [⟨some 31, none, .mov (.slot 3)⟩,
  ⟨some 32, none, .mov (.slot 0)⟩,
  ⟨some 33, none, .mov (.slot 4)⟩,
  ⟨some 34, none, .idx 3 (.slot 32) (.slot 33)⟩,
  ⟨some 35, none, .faddr 1 (.slot 34)⟩,
  ⟨some 36, none, .load false 1 (.slot 35)⟩,
  ⟨some 37, none, .mov (.slot 0)⟩,
  ⟨some 38, none, .mov (.slot 4)⟩,
  ⟨some 39, none, .idx 3 (.slot 37) (.slot 38)⟩,
  ⟨some 40, none, .faddr 2 (.slot 39)⟩,
  ⟨some 41, none, .load false 1 (.slot 40)⟩,
  ⟨some 42, none, .call .frz n_roster_Join [(.slot 31), (.slot 36), (.slot 41)]⟩,
  ⟨some 30, none, .mov (.slot 42)⟩,
  ⟨some 43, none, .extract 0 (.slot 30)⟩,
  ⟨some 44, none, .extract 1 (.slot 30)⟩,
  ⟨some 5, none, .mov (.slot 43)⟩,
  ⟨some 6, none, .mov (.slot 44)⟩]
def q1R14 : List AOper := [⟨some 46, none, .bin .eql (.slot 27) (.const (.int .i64 1))⟩,
  ⟨some 45, none, .mov (.slot 46)⟩]
def q1R15 : List AOper := [⟨some 48, none, .mov (.slot 3)⟩,
  ⟨some 49, none, .mov (.slot 0)⟩,
  ⟨some 50, none, .mov (.slot 4)⟩,
  ⟨some 51, none, .idx 3 (.slot 49) (.slot 50)⟩,
  ⟨some 52, none, .faddr 1 (.slot 51)⟩,
  ⟨some 53, none, .load false 1 (.slot 52)⟩,
  ⟨some 54, none, .call .frz n_roster_Leave [(.slot 48), (.slot 53)]⟩,
  ⟨some 47, none, .mov (.slot 54)⟩,
  ⟨some 55, none, .extract 0 (.slot 47)⟩,
  ⟨some 56, none, .extract 1 (.slot 47)⟩,
  ⟨some 5, none, .mov (.slot 55)⟩,
  ⟨some 6, none, .mov (.slot 56)⟩]
def q1R16 : List AOper := [⟨some 58, none, .bin .eql (.slot 27) (.const (.int .i64 2))⟩,
  ⟨some 57, none, .mov (.slot 58)⟩]
def q1R17 : List AOper := [⟨some 60, none, .mov (.slot 3)⟩,
  ⟨some 61, none, .mov (.slot 0)⟩,
  ⟨some 62, none, .mov (.slot 4)⟩,
  ⟨some 63, none, .idx 3 (.slot 61) (.slot 62)⟩,
  ⟨some 64, none, .faddr 1 (.slot 63)⟩,
  ⟨some 65, none, .load false 1 (.slot 64)⟩,
  ⟨some 66, none, .mov (.slot 0)⟩,
  ⟨some 67, none, .mov (.slot 4)⟩,
  ⟨some 68, none, .idx 3 (.slot 66) (.slot 67)⟩,
  ⟨some 69, none, .faddr 2 (.slot 68)⟩,
  ⟨some 70, none, .load false 1 (.slot 69)⟩,
  ⟨some 71, none, .call .frz n_roster_Change [(.slot 60), (.slot 65), (.slot 70)]⟩,
  ⟨some 59, none, .mov (.slot 71)⟩,
  ⟨some 72, none, .extract 0 (.slot 59)⟩,
  ⟨some 73, none, .extract 1 (.slot 59)⟩,
  ⟨some 5, none, .mov (.slot 72)⟩,
  ⟨some 6, none, .mov (.slot 73)⟩]
def q1R18 : List AOper := [⟨some 74, none, .mov (.slot 6)⟩,
  ⟨some 75, none, .bin .neq (.slot 74) (.const (.int .i64 0))⟩]
def q1R19 : List AOper := [⟨some 76, none, .mov (.slot 5)⟩,
  ⟨some 77, none, .len false (.slot 76)⟩,
  ⟨some 78, none, .bin .gtr (.slot 77) (.const (.int .i64 0))⟩]
def q1R20 : List AOper := [⟨some 2, none, .mov (.const (.bool false))⟩]
def q1R21 : List AOper := [⟨some 79, none, .mov (.slot 5)⟩,
  ⟨some 80, none, .call .frz n_roster_May [(.slot 79)]⟩,
  ⟨some 81, none, .not (.slot 80)⟩,
  ⟨some 82, none, .mov (.slot 81)⟩,
  ⟨some 83, some (82, false), .mov (.slot 5)⟩,
  ⟨some 84, some (82, false), .len false (.slot 83)⟩,
  ⟨some 85, some (82, false), .bin .gtr (.slot 84) (.const (.int .i64 8))⟩,
  ⟨some 86, none, .pick (.slot 82) (.const (.bool true)) (.slot 85)⟩]
def q1R22 : List AOper := [⟨some 2, none, .mov (.const (.bool false))⟩]
def q1R23 : List AOper := [⟨some 7, none, .mov (.const (.int .i64 1))⟩]
def q1R24 : List AOper := [⟨some 87, none, .mov (.slot 7)⟩,
  ⟨some 88, none, .bin .leq (.slot 87) (.const (.int .i64 8))⟩]
def q1R26 : List AOper := [⟨some 92, none, .mov (.slot 3)⟩,
  ⟨some 93, none, .mov (.slot 7)⟩,
  ⟨some 94, none, .call .frz n_roster_Find [(.slot 92), (.slot 93)]⟩,
  ⟨some 91, none, .mov (.slot 94)⟩,
  ⟨some 95, none, .extract 0 (.slot 91)⟩,
  ⟨some 96, none, .extract 1 (.slot 91)⟩,
  ⟨some 8, none, .alloc [.int .i64 0, .int .i64 0]⟩,
  ⟨none, none, .store true 2 (.slot 8) (.slot 95)⟩,
  ⟨some 9, none, .mov (.slot 96)⟩]
def q1R27 : List AOper := [⟨some 98, none, .mov (.slot 5)⟩,
  ⟨some 99, none, .mov (.slot 7)⟩,
  ⟨some 100, none, .call .frz n_roster_Find [(.slot 98), (.slot 99)]⟩,
  ⟨some 97, none, .mov (.slot 100)⟩,
  ⟨some 101, none, .extract 0 (.slot 97)⟩,
  ⟨some 102, none, .extract 1 (.slot 97)⟩,
  ⟨some 10, none, .alloc [.int .i64 0, .int .i64 0]⟩,
  ⟨none, none, .store true 2 (.slot 10) (.slot 101)⟩,
  ⟨some 11, none, .mov (.slot 102)⟩]
def q1R28 : List AOper := ⟨some 103, none, .mov (.slot 7)⟩ ::
  ⟨some 104, none, .mov (.slot 0)⟩ ::
  ⟨some 105, none, .mov (.slot 4)⟩ ::
  ⟨some 106, none, .idx 3 (.slot 104) (.slot 105)⟩ ::
  ⟨some 107, none, .faddr 1 (.slot 106)⟩ ::
  ⟨some 108, none, .load false 1 (.slot 107)⟩ ::
  ⟨some 109, none, .bin .neq (.slot 103) (.slot 108)⟩ ::
  ⟨some 110, none, .mov (.slot 109)⟩ ::
  ⟨some 111, some (110, true), .load true 2 (.slot 8)⟩ ::
  ⟨some 112, some (110, true), .load true 2 (.slot 10)⟩ ::
  ⟨some 113, some (110, true), .eq true [.ki, .ki] true (.slot 111) (.slot 112)⟩ ::
  ⟨some 114, some (110, true), .mov (.slot 113)⟩ ::
  ⟨some 115, some (114, false), .mov (.slot 9)⟩ ::
  ⟨some 116, some (114, false), .mov (.slot 11)⟩ ::
  ⟨some 117, some (114, false), .eq false [.kb] true (.slot 115) (.slot 116)⟩ ::
  ⟨some 118, some (110, true), .pick (.slot 114) (.const (.bool true)) (.slot 117)⟩ ::
  ⟨some 119, none, .pick (.slot 110) (.slot 118) (.const (.bool false))⟩ ::
  ⟨some 120, none, .mov (.slot 119)⟩ ::
  ⟨some 121, some (120, false), .mov (.slot 7)⟩ ::
  ⟨some 122, some (120, false), .mov (.slot 0)⟩ ::
  ⟨some 123, some (120, false), .mov (.slot 4)⟩ ::
  ⟨some 124, some (120, false), .idx 3 (.slot 122) (.slot 123)⟩ ::
  ⟨some 125, some (120, false), .faddr 1 (.slot 124)⟩ ::
  ⟨some 126, some (120, false), .load false 1 (.slot 125)⟩ ::
  ⟨some 127, some (120, false), .bin .eql (.slot 121) (.slot 126)⟩ ::
  ⟨some 128, some (120, false), .mov (.slot 127)⟩ ::
  ⟨some 129, some (128, true), .mov (.slot 11)⟩ ::
  ⟨some 130, some (128, true), .mov (.slot 0)⟩ ::
  ⟨some 131, some (128, true), .mov (.slot 4)⟩ ::
  ⟨some 132, some (128, true), .idx 3 (.slot 130) (.slot 131)⟩ ::
  ⟨some 133, some (128, true), .faddr 0 (.slot 132)⟩ ::
  ⟨some 134, some (128, true), .load false 1 (.slot 133)⟩ ::
  ⟨some 135, some (128, true), .bin .neq (.slot 134) (.const (.int .i64 1))⟩ ::
  ⟨some 136, some (128, true), .eq false [.kb] true (.slot 129) (.slot 135)⟩ ::
  ⟨some 137, some (120, false), .pick (.slot 128) (.slot 136) (.const (.bool false))⟩ ::
  ⟨some 138, none, .pick (.slot 120) (.const (.bool true)) (.slot 137)⟩ ::
  ⟨some 139, none, .mov (.slot 138)⟩ ::
  ⟨some 140, some (139, false), .mov (.slot 7)⟩ ::
  ⟨some 141, some (139, false), .mov (.slot 0)⟩ ::
  ⟨some 142, some (139, false), .mov (.slot 4)⟩ ::
  ⟨some 143, some (139, false), .idx 3 (.slot 141) (.slot 142)⟩ ::
  ⟨some 144, some (139, false), .faddr 1 (.slot 143)⟩ ::
  ⟨some 145, some (139, false), .load false 1 (.slot 144)⟩ ::
  ⟨some 146, some (139, false), .bin .eql (.slot 140) (.slot 145)⟩ ::
  ⟨some 147, some (139, false), .mov (.slot 146)⟩ ::
  ⟨some 148, some (147, true), .mov (.slot 11)⟩ ::
  ⟨some 149, some (139, false), .pick (.slot 147) (.slot 148) (.const (.bool false))⟩ ::
  ⟨some 150, some (139, false), .mov (.slot 149)⟩ ::
  ⟨some 151, some (150, true), .faddr 1 (.slot 10)⟩ ::
  ⟨some 152, some (150, true), .load false 1 (.slot 151)⟩ ::
  ⟨some 153, some (150, true), .mov (.slot 0)⟩ ::
  ⟨some 154, some (150, true), .mov (.slot 4)⟩ ::
  ⟨some 155, some (150, true), .idx 3 (.slot 153) (.slot 154)⟩ ::
  ⟨some 156, some (150, true), .faddr 2 (.slot 155)⟩ ::
  ⟨some 157, some (150, true), .load false 1 (.slot 156)⟩ ::
  ⟨some 158, some (150, true), .bin .neq (.slot 152) (.slot 157)⟩ ::
  ⟨some 159, some (139, false), .pick (.slot 150) (.slot 158) (.const (.bool false))⟩ ::
  ⟨some 160, none, .pick (.slot 139) (.const (.bool true)) (.slot 159)⟩ :: []
def q1R29 : List AOper := [⟨some 2, none, .mov (.const (.bool false))⟩]
def q1R25 : List AOper := [⟨some 89, none, .mov (.slot 7)⟩,
  ⟨some 90, none, .bin .add (.slot 89) (.const (.int .i64 1))⟩,
  ⟨some 7, none, .mov (.slot 90)⟩]
def c_law26_RosterAlone_L1 : ACode := (.seq (.seq (.region q1R24 false [0, 3, 4, 5, 7, 88]) (.cond (.slot 88) .skip (.exit 3))) (.seq (.block 4 (.seq (.region q1R26 false [0, 3, 4, 5, 7, 8, 9]) (.seq (.region q1R27 false [0, 3, 4, 5, 7, 8, 9, 10, 11]) (.seq (.region q1R28 true [0, 3, 4, 5, 7, 160]) (.cond (.slot 160) (.seq (.region q1R29 false [2]) .ret) .skip))))) (.region q1R25 false [0, 3, 4, 5, 7])))
def lp_law26_RosterAlone_1 : ACode := .loop [0, 3, 4, 5, 7] c_law26_RosterAlone_L1
def q1R30 : List AOper := [⟨some 161, none, .mov (.slot 5)⟩,
  ⟨some 3, none, .mov (.slot 161)⟩]
def q1R8 : List AOper := [⟨some 21, none, .mov (.slot 4)⟩,
  ⟨some 22, none, .bin .add (.slot 21) (.const (.int .i64 1))⟩,
  ⟨some 4, none, .mov (.slot 22)⟩]
def c_law26_RosterAlone_L0 : ACode := (.seq (.seq (.region q1R7 false [0, 3, 4, 20]) (.cond (.slot 20) .skip (.exit 0))) (.seq (.block 1 (.seq (.region q1R9 false [0, 3, 4, 5]) (.seq (.region q1R10 false [0, 3, 4, 5, 6]) (.seq (.seq (.region q1R11 false [0, 3, 4, 5, 6, 27]) (.block 2 (.seq (.region q1R12 false [0, 3, 4, 5, 6, 27, 28]) (.cond (.slot 28) (.region q1R13 true [0, 3, 4, 5, 6]) (.seq (.region q1R14 false [0, 3, 4, 5, 6, 27, 45]) (.cond (.slot 45) (.region q1R15 false [0, 3, 4, 5, 6]) (.seq (.region q1R16 false [0, 3, 4, 5, 6, 57]) (.cond (.slot 57) (.region q1R17 true [0, 3, 4, 5, 6]) .skip)))))))) (.seq (.seq (.region q1R18 false [0, 3, 4, 5, 75]) (.cond (.slot 75) (.seq (.seq (.region q1R19 false [0, 3, 4, 78]) (.cond (.slot 78) (.seq (.region q1R20 false [2]) .ret) .skip)) (.exit 1)) .skip)) (.seq (.seq (.region q1R21 false [0, 3, 4, 5, 86]) (.cond (.slot 86) (.seq (.region q1R22 false [2]) .ret) .skip)) (.seq (.seq (.region q1R23 false [0, 3, 4, 5, 7]) (.block 3 lp_law26_RosterAlone_1)) (.region q1R30 false [0, 3, 4])))))))) (.region q1R8 false [0, 3, 4])))
def lp_law26_RosterAlone_0 : ACode := .loop [0, 3, 4] c_law26_RosterAlone_L0
def q1R31 : List AOper := [⟨some 2, none, .mov (.const (.bool true))⟩]
def c_law26_RosterAlone : AFn := ⟨(.seq (.region q1R0 false [0]) (.seq (.seq (.region q1R1 false [0, 13]) (.cond (.slot 13) (.seq (.region q1R2 false [2]) .ret) .skip)) (.seq (.seq (.region q1R3 false [0, 16]) (.cond (.slot 16) (.seq (.region q1R4 false [2]) .ret) .skip)) (.seq (.region q1R5 false [0, 3]) (.seq (.seq (.region q1R6 false [0, 3, 4]) (.block 0 lp_law26_RosterAlone_0)) (.seq (.region q1R31 false [2]) .ret)))))), [.slot 2]⟩
/-- The seat's functions. -/
def FT : Nat → Option AEnt
  | 90 => some (.fn c_slices_IndexFunc_Member)
  | 75 => some (.fn c_slices_ContainsFunc_Member)
  | 77 => some (.fn c_roster_role)
  | 76 => some (.fn c_roster_May_1)
  | 46 => some (.fn c_roster_May)
  | 88 => some (.fn c_slices_BinarySearchFunc_Member_int)
  | 89 => some (.fn c_roster_place_1)
  | 74 => some (.fn c_roster_place)
  | 44 => some (.fn c_roster_Find)
  | 47 => some (.fn c_roster_Writers)
  | 78 => some (.ext (extInsert 2))
  | 79 => some (.ext (extClone 2))
  | 48 => some (.fn c_roster_Join)
  | 80 => some (.fn c_slices_DeleteFunc_Member)
  | 81 => some (.fn c_roster_Leave_1)
  | 49 => some (.fn c_roster_Leave)
  | 42 => some (.fn c_law26_known)
  | 50 => some (.fn c_roster_Change)
  | 12 => some (.fn c_law26_RosterAlone)
  | _ => none
variable (G : Nat → Option (List AV)) (args : List AV) (h : List ARow)
theorem run_slices_IndexFunc_Member : aR G FT n_slices_IndexFunc_Member args h = (aE G FT h.length c_slices_IndexFunc_Member.body ⟨aenter args, h⟩).bind (afinish c_slices_IndexFunc_Member.res) := y_fn G FT rfl args h
theorem run_slices_ContainsFunc_Member : aR G FT n_slices_ContainsFunc_Member args h = (aE G FT h.length c_slices_ContainsFunc_Member.body ⟨aenter args, h⟩).bind (afinish c_slices_ContainsFunc_Member.res) := y_fn G FT rfl args h
theorem run_roster_role : aR G FT n_roster_role args h = (aE G FT h.length c_roster_role.body ⟨aenter args, h⟩).bind (afinish c_roster_role.res) := y_fn G FT rfl args h
theorem run_roster_May_1 : aR G FT n_roster_May_1 args h = (aE G FT h.length c_roster_May_1.body ⟨aenter args, h⟩).bind (afinish c_roster_May_1.res) := y_fn G FT rfl args h
theorem run_roster_May : aR G FT n_roster_May args h = (aE G FT h.length c_roster_May.body ⟨aenter args, h⟩).bind (afinish c_roster_May.res) := y_fn G FT rfl args h
theorem run_slices_BinarySearchFunc_Member_int : aR G FT n_slices_BinarySearchFunc_Member_int args h = (aE G FT h.length c_slices_BinarySearchFunc_Member_int.body ⟨aenter args, h⟩).bind (afinish c_slices_BinarySearchFunc_Member_int.res) := y_fn G FT rfl args h
theorem run_roster_place_1 : aR G FT n_roster_place_1 args h = (aE G FT h.length c_roster_place_1.body ⟨aenter args, h⟩).bind (afinish c_roster_place_1.res) := y_fn G FT rfl args h
theorem run_roster_place : aR G FT n_roster_place args h = (aE G FT h.length c_roster_place.body ⟨aenter args, h⟩).bind (afinish c_roster_place.res) := y_fn G FT rfl args h
theorem run_roster_Find : aR G FT n_roster_Find args h = (aE G FT h.length c_roster_Find.body ⟨aenter args, h⟩).bind (afinish c_roster_Find.res) := y_fn G FT rfl args h
theorem run_roster_Join : aR G FT n_roster_Join args h = (aE G FT h.length c_roster_Join.body ⟨aenter args, h⟩).bind (afinish c_roster_Join.res) := y_fn G FT rfl args h
theorem run_slices_DeleteFunc_Member : aR G FT n_slices_DeleteFunc_Member args h = (aE G FT h.length c_slices_DeleteFunc_Member.body ⟨aenter args, h⟩).bind (afinish c_slices_DeleteFunc_Member.res) := y_fn G FT rfl args h
theorem run_roster_Leave_1 : aR G FT n_roster_Leave_1 args h = (aE G FT h.length c_roster_Leave_1.body ⟨aenter args, h⟩).bind (afinish c_roster_Leave_1.res) := y_fn G FT rfl args h
theorem run_roster_Leave : aR G FT n_roster_Leave args h = (aE G FT h.length c_roster_Leave.body ⟨aenter args, h⟩).bind (afinish c_roster_Leave.res) := y_fn G FT rfl args h
theorem run_roster_Change : aR G FT n_roster_Change args h = (aE G FT h.length c_roster_Change.body ⟨aenter args, h⟩).bind (afinish c_roster_Change.res) := y_fn G FT rfl args h
theorem run_law26_RosterAlone : aR G FT n_law26_RosterAlone args h = (aE G FT h.length c_law26_RosterAlone.body ⟨aenter args, h⟩).bind (afinish c_law26_RosterAlone.res) := y_fn G FT rfl args h
end Go.Proofs.Ytfnonledcniojaa
