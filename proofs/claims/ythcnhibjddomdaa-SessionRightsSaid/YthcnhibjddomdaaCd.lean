/- The small machine's code of the seat's functions. Conditions: none. -/
import Derived.Test.YthcnhibjddomdaaM3
set_option linter.unusedVariables false
set_option linter.unusedSimpArgs false
set_option linter.unusedSectionVars false
namespace Go.Proofs.Ythcnhibjddomdaa
open Go

def n_bytes_Clone : Nat := 88
def n_input_May : Nat := 49
def n_input_May_1 : Nat := 78
def n_input_may : Nat := 79
def n_input_may_1 : Nat := 95
def n_law30_SessionRights : Nat := 3
def n_law30_bytes : Nat := 12
def n_law30_known : Nat := 6
def n_law30_least : Nat := 16
def n_law30_role : Nat := 15
def n_merge_Drop : Nat := 45
def n_merge_Drop_1 : Nat := 72
def n_merge_May : Nat := 29
def n_merge_Pop : Nat := 26
def n_merge_Push : Nat := 51
def n_merge_Size : Nat := 80
def n_merge_copied : Nat := 59
def n_merge_piece : Nat := 63
def n_roster_Change : Nat := 22
def n_roster_Find : Nat := 23
def n_roster_Join : Nat := 19
def n_roster_Leave : Nat := 21
def n_roster_Leave_1 : Nat := 48
def n_roster_May : Nat := 27
def n_roster_May_1 : Nat := 61
def n_roster_Writers : Nat := 74
def n_roster_place : Nat := 42
def n_roster_place_1 : Nat := 68
def n_roster_role : Nat := 41
def n_session_Change : Nat := 10
def n_session_First : Nat := 7
def n_session_Join : Nat := 8
def n_session_Leave : Nat := 9
def n_session_May : Nat := 14
def n_session_May_1 : Nat := 33
def n_session_May_2 : Nat := 35
def n_session_Take : Nat := 11
def n_session_Write : Nat := 13
def n_session_copied : Nat := 25
def n_session_does : Nat := 24
def n_session_does_1 : Nat := 50
def n_session_does_2 : Nat := 52
def n_session_does_3 : Nat := 54
def n_session_does_4 : Nat := 56
def n_session_settled : Nat := 46
def n_session_with : Nat := 20
def n_session_writes : Nat := 31
def n_size_Least : Nat := 75
def n_size_May : Nat := 30
def n_size_Set : Nat := 53
def n_size_member : Nat := 81
def n_size_side : Nat := 82
def n_size_window : Nat := 64
def n_slices_BinarySearchFunc_Member_int : Nat := 67
def n_slices_Clone_Member : Nat := 44
def n_slices_Clone_int : Nat := 58
def n_slices_ContainsFunc_Deed : Nat := 77
def n_slices_ContainsFunc_Member : Nat := 60
def n_slices_ContainsFunc_Typed : Nat := 34
def n_slices_ContainsFunc_int : Nat := 32
def n_slices_Contains_int : Nat := 91
def n_slices_DeleteFunc_Member : Nat := 47
def n_slices_DeleteFunc_Typed : Nat := 71
def n_slices_DeleteFunc_int : Nat := 93
def n_slices_Delete_int : Nat := 87
def n_slices_IndexFunc_Deed : Nat := 94
def n_slices_IndexFunc_Member : Nat := 76
def n_slices_IndexFunc_Typed : Nat := 66
def n_slices_IndexFunc_int : Nat := 65
def n_slices_Index_int : Nat := 97
def n_slices_Insert_Member : Nat := 43
def n_slices_overlaps_Member : Nat := 69
def n_slices_rotateRight_Member : Nat := 70
def n_token_Ask : Nat := 55
def n_token_Ask_1 : Nat := 85
def n_token_Free : Nat := 57
def n_token_Free_1 : Nat := 86
def n_token_Keep : Nat := 73
def n_token_Keep_1 : Nat := 90
def n_token_Keep_2 : Nat := 92
def n_token_May : Nat := 28
def n_token_Place : Nat := 83
def n_token_arbiter_on : Nat := 98
def n_token_change : Nat := 84
def n_token_number : Nat := 62
/- oriel/session.First -/
def q34R0 : List AOper := [⟨some 0, none, .alloc (.data false 2 [] true :: .int .i64 0 :: .data false 1 [] true :: .data false 3 [] true :: .int .i64 0 :: .int .i64 0 :: .int .i64 0 :: .int .i64 0 :: .int .i64 0 :: .int .i64 0 :: .int .i64 0 :: .int .i64 0 :: .int .i64 0 :: .int .i64 0 :: .int .i64 0 :: .int .i64 0 :: .int .i64 0 :: .int .i64 0 :: .int .i64 0 :: .int .i64 0 :: .int .i64 0 :: .int .i64 0 :: .int .i64 0 :: .int .i64 0 :: .int .i64 0 :: .int .i64 0 :: .int .i64 0 :: .int .i64 0 :: .int .i64 0 :: .int .i64 0 :: .int .i64 0 :: .int .i64 0 :: .int .i64 0 :: [])⟩]
def q34R1 : List AOper := [⟨some 1, none, .build (.data false 2 [] true :: .int .i64 0 :: .data false 1 [] true :: .data false 3 [] true :: .int .i64 0 :: .int .i64 0 :: .int .i64 0 :: .int .i64 0 :: .int .i64 0 :: .int .i64 0 :: .int .i64 0 :: .int .i64 0 :: .int .i64 0 :: .int .i64 0 :: .int .i64 0 :: .int .i64 0 :: .int .i64 0 :: .int .i64 0 :: .int .i64 0 :: .int .i64 0 :: .int .i64 0 :: .int .i64 0 :: .int .i64 0 :: .int .i64 0 :: .int .i64 0 :: .int .i64 0 :: .int .i64 0 :: .int .i64 0 :: .int .i64 0 :: .int .i64 0 :: .int .i64 0 :: .int .i64 0 :: .int .i64 0 :: []) [(22, 1, (.const (.int .i64 24))), (23, 1, (.const (.int .i64 40)))]⟩,
  ⟨none, none, .store true 33 (.slot 0) (.slot 1)⟩]
def c_session_First : AFn := ⟨(.seq (.region q34R0 false [0]) (.seq (.region q34R1 false [0]) .ret)), [.cell 0 true 33]⟩
/- slices.IndexFunc[[]oriel/api.Member,oriel/api.Member] -/
def q75R0 : List AOper := [⟨some 4, none, .mov (.const (.int .i64 0))⟩]
def q75R1 : List AOper := [⟨some 6, none, .mov (.slot 0)⟩,
  ⟨some 7, none, .len false (.slot 6)⟩,
  ⟨some 8, none, .mov (.const (.int .i64 0))⟩]
def q75R2 : List AOper := [⟨some 9, none, .bin .lss (.slot 8) (.slot 7)⟩]
def q75R3 : List AOper := [⟨some 10, none, .mov (.slot 8)⟩,
  ⟨some 5, none, .mov (.slot 10)⟩]
def q75R4 : List AOper := [⟨some 11, none, .mov (.slot 1)⟩,
  ⟨some 12, none, .mov (.slot 0)⟩,
  ⟨some 13, none, .mov (.slot 5)⟩,
  ⟨some 14, none, .idx 2 (.slot 12) (.slot 13)⟩,
  ⟨some 15, none, .load true 2 (.slot 14)⟩,
  ⟨some 16, none, .callv (.slot 11) [(.slot 15)]⟩]
def q75R5 : List AOper := [⟨some 17, none, .mov (.slot 5)⟩,
  ⟨some 4, none, .mov (.slot 17)⟩]
def q75R6 : List AOper := [⟨some 18, none, .bin .add (.slot 8) (.const (.int .i64 1))⟩,
  ⟨some 8, none, .mov (.slot 18)⟩]
def c_slices_IndexFunc_Member_L0 : ACode := (.seq (.region q75R2 false [0, 1, 7, 8, 9]) (.seq (.cond (.slot 9) .skip (.exit 0)) (.seq (.block 1 (.seq (.region q75R3 false [0, 1, 5, 7, 8]) (.seq (.region q75R4 false [0, 1, 5, 7, 8, 16]) (.cond (.slot 16) (.seq (.region q75R5 false [4]) .ret) .skip)))) (.region q75R6 false [0, 1, 7, 8]))))
def lp_slices_IndexFunc_Member_0 : ACode := .loop [0, 1, 7, 8] c_slices_IndexFunc_Member_L0
def q75R7 : List AOper := [⟨some 4, none, .mov (.const (.int .i64 (-1)))⟩]
def c_slices_IndexFunc_Member : AFn := ⟨(.seq (.region q75R0 false [0, 1]) (.seq (.seq (.region q75R1 false [0, 1, 7, 8]) (.block 0 lp_slices_IndexFunc_Member_0)) (.seq (.region q75R7 false [4]) .ret))), [.slot 4]⟩
/- slices.ContainsFunc[[]oriel/api.Member,oriel/api.Member] -/
def q63R0 : List AOper := [⟨some 4, none, .mov (.const (.bool false))⟩]
def q63R1 : List AOper := [⟨some 5, none, .mov (.slot 0)⟩,
  ⟨some 6, none, .mov (.slot 1)⟩,
  ⟨some 7, none, .call .inl n_slices_IndexFunc_Member [(.slot 5), (.slot 6)]⟩,
  ⟨some 8, none, .bin .geq (.slot 7) (.const (.int .i64 0))⟩,
  ⟨some 4, none, .mov (.slot 8)⟩]
def c_slices_ContainsFunc_Member : AFn := ⟨(.seq (.region q63R0 false [0, 1]) (.seq (.region q63R1 false [4]) .ret)), [.slot 4]⟩
/- oriel/roster.role -/
def q32R0 : List AOper := [⟨some 2, none, .mov (.const (.bool false))⟩]
def q32R1 : List AOper := [⟨some 3, none, .mov (.slot 0)⟩,
  ⟨some 4, none, .bin .eql (.slot 3) (.const (.int .i64 1))⟩,
  ⟨some 5, none, .mov (.slot 4)⟩,
  ⟨some 6, some (5, false), .mov (.slot 0)⟩,
  ⟨some 7, some (5, false), .bin .eql (.slot 6) (.const (.int .i64 2))⟩,
  ⟨some 8, none, .pick (.slot 5) (.const (.bool true)) (.slot 7)⟩,
  ⟨some 2, none, .mov (.slot 8)⟩]
def c_roster_role : AFn := ⟨(.seq (.region q32R0 false [0]) (.seq (.region q32R1 false [2]) .ret)), [.slot 2]⟩
/- oriel/roster.May'1 -/
def q28R0 : List AOper := [⟨some 2, none, .box 2 (.slot 0)⟩,
  ⟨some 3, none, .mov (.const (.bool false))⟩]
def q28R1 : List AOper := [⟨some 5, none, .faddr 0 (.slot 2)⟩,
  ⟨some 6, none, .load false 1 (.slot 5)⟩,
  ⟨some 7, none, .load false 1 (.slot 1)⟩,
  ⟨some 8, none, .bin .leq (.slot 6) (.slot 7)⟩,
  ⟨some 9, none, .mov (.slot 8)⟩,
  ⟨some 10, some (9, false), .faddr 0 (.slot 2)⟩,
  ⟨some 11, some (9, false), .load false 1 (.slot 10)⟩,
  ⟨some 12, some (9, false), .bin .gtr (.slot 11) (.const (.int .i64 8))⟩,
  ⟨some 13, none, .pick (.slot 9) (.const (.bool true)) (.slot 12)⟩,
  ⟨some 14, none, .mov (.slot 13)⟩,
  ⟨some 15, some (14, false), .faddr 1 (.slot 2)⟩,
  ⟨some 16, some (14, false), .load false 1 (.slot 15)⟩,
  ⟨some 17, some (14, false), .call .frz n_roster_role [(.slot 16)]⟩,
  ⟨some 18, some (14, false), .not (.slot 17)⟩,
  ⟨some 19, none, .pick (.slot 14) (.const (.bool true)) (.slot 18)⟩,
  ⟨some 4, none, .mov (.slot 19)⟩]
def q28R2 : List AOper := [⟨some 20, none, .faddr 0 (.slot 2)⟩,
  ⟨some 21, none, .load false 1 (.slot 20)⟩,
  ⟨none, none, .store false 1 (.slot 1) (.slot 21)⟩]
def q28R3 : List AOper := [⟨some 22, none, .mov (.slot 4)⟩,
  ⟨some 3, none, .mov (.slot 22)⟩]
def c_roster_May_1 : AFn := ⟨(.seq (.region q28R0 false [1, 2]) (.seq (.region q28R1 false [1, 2, 4]) (.seq (.region q28R2 false [4]) (.seq (.region q28R3 false [3]) .ret)))), [.slot 3]⟩
/- oriel/roster.May -/
def q27R0 : List AOper := [⟨some 2, none, .mov (.const (.bool false))⟩]
def q27R1 : List AOper := [⟨some 3, none, .alloc [.int .i64 0]⟩,
  ⟨none, none, .store false 1 (.slot 3) (.const (.int .i64 0))⟩]
def q27R2 : List AOper := [⟨some 4, none, .mov (.slot 0)⟩,
  ⟨some 5, none, .mkfn (.func n_roster_May_1) [] [(.slot 3)]⟩,
  ⟨some 6, none, .call .inl n_slices_ContainsFunc_Member [(.slot 4), (.slot 5)]⟩,
  ⟨some 7, none, .not (.slot 6)⟩,
  ⟨some 2, none, .mov (.slot 7)⟩]
def c_roster_May : AFn := ⟨(.seq (.region q27R0 false [0]) (.seq (.region q27R1 false [0, 3]) (.seq (.region q27R2 false [2]) .ret))), [.slot 2]⟩
/- slices.BinarySearchFunc[[]oriel/api.Member,oriel/api.Member,int] -/
def q59R0 : List AOper := [⟨some 6, none, .mov (.const (.int .i64 0))⟩,
  ⟨some 7, none, .mov (.const (.bool false))⟩]
def q59R1 : List AOper := [⟨some 12, none, .mov (.slot 0)⟩,
  ⟨some 13, none, .len false (.slot 12)⟩,
  ⟨some 8, none, .mov (.slot 13)⟩]
def q59R2 : List AOper := [⟨some 14, none, .mov (.slot 8)⟩,
  ⟨some 9, none, .mov (.const (.int .i64 0))⟩,
  ⟨some 10, none, .mov (.slot 14)⟩]
def q59R3 : List AOper := [⟨some 15, none, .mov (.slot 9)⟩,
  ⟨some 16, none, .mov (.slot 10)⟩,
  ⟨some 17, none, .bin .lss (.slot 15) (.slot 16)⟩]
def q59R4 : List AOper := [⟨some 18, none, .mov (.slot 9)⟩,
  ⟨some 19, none, .mov (.slot 10)⟩,
  ⟨some 20, none, .bin .add (.slot 18) (.slot 19)⟩,
  ⟨some 21, none, .conv .u64 (.slot 20)⟩,
  ⟨some 22, none, .bin .shr (.slot 21) (.const (.int .u64 1))⟩,
  ⟨some 23, none, .conv .i64 (.slot 22)⟩,
  ⟨some 11, none, .mov (.slot 23)⟩]
def q59R5 : List AOper := [⟨some 24, none, .mov (.slot 2)⟩,
  ⟨some 25, none, .mov (.slot 0)⟩,
  ⟨some 26, none, .mov (.slot 11)⟩,
  ⟨some 27, none, .idx 2 (.slot 25) (.slot 26)⟩,
  ⟨some 28, none, .load true 2 (.slot 27)⟩,
  ⟨some 29, none, .mov (.slot 1)⟩,
  ⟨some 30, none, .callv (.slot 24) [(.slot 28), (.slot 29)]⟩,
  ⟨some 31, none, .bin .lss (.slot 30) (.const (.int .i64 0))⟩]
def q59R6 : List AOper := [⟨some 32, none, .mov (.slot 11)⟩,
  ⟨some 33, none, .bin .add (.slot 32) (.const (.int .i64 1))⟩,
  ⟨some 9, none, .mov (.slot 33)⟩]
def q59R7 : List AOper := [⟨some 34, none, .mov (.slot 11)⟩,
  ⟨some 10, none, .mov (.slot 34)⟩]
def c_slices_BinarySearchFunc_Member_int_L0 : ACode := (.seq (.seq (.region q59R3 false [0, 1, 2, 8, 9, 10, 17]) (.cond (.slot 17) .skip (.exit 0))) (.block 1 (.seq (.region q59R4 false [0, 1, 2, 8, 9, 10, 11]) (.seq (.region q59R5 false [0, 1, 2, 8, 9, 10, 11, 31]) (.cond (.slot 31) (.region q59R6 false [0, 1, 2, 8, 9, 10]) (.region q59R7 false [0, 1, 2, 8, 9, 10]))))))
def lp_slices_BinarySearchFunc_Member_int_0 : ACode := .loop [0, 1, 2, 8, 9, 10] c_slices_BinarySearchFunc_Member_int_L0
def q59R8 : List AOper := [⟨some 35, none, .mov (.slot 9)⟩,
  ⟨some 36, none, .mov (.slot 9)⟩,
  ⟨some 37, none, .mov (.slot 8)⟩,
  ⟨some 38, none, .bin .lss (.slot 36) (.slot 37)⟩,
  ⟨some 39, none, .mov (.slot 38)⟩,
  ⟨some 40, some (39, true), .mov (.slot 2)⟩,
  ⟨some 41, some (39, true), .mov (.slot 0)⟩,
  ⟨some 42, some (39, true), .mov (.slot 9)⟩,
  ⟨some 43, some (39, true), .idx 2 (.slot 41) (.slot 42)⟩,
  ⟨some 44, some (39, true), .load true 2 (.slot 43)⟩,
  ⟨some 45, some (39, true), .mov (.slot 1)⟩,
  ⟨some 46, some (39, true), .callv (.slot 40) [(.slot 44), (.slot 45)]⟩,
  ⟨some 47, some (39, true), .bin .eql (.slot 46) (.const (.int .i64 0))⟩,
  ⟨some 48, none, .pick (.slot 39) (.slot 47) (.const (.bool false))⟩,
  ⟨some 6, none, .mov (.slot 35)⟩,
  ⟨some 7, none, .mov (.slot 48)⟩]
def c_slices_BinarySearchFunc_Member_int : AFn := ⟨(.seq (.region q59R0 false [0, 1, 2]) (.seq (.region q59R1 false [0, 1, 2, 8]) (.seq (.region q59R2 false [0, 1, 2, 8, 9, 10]) (.seq (.block 0 lp_slices_BinarySearchFunc_Member_int_0) (.seq (.region q59R8 false [6, 7]) .ret))))), [.slot 6, .slot 7]⟩
/- oriel/roster.place'1 -/
def q31R0 : List AOper := [⟨some 2, none, .box 2 (.slot 0)⟩,
  ⟨some 4, none, .mov (.const (.int .i64 0))⟩]
def q31R1 : List AOper := [⟨some 5, none, .faddr 0 (.slot 2)⟩,
  ⟨some 6, none, .load false 1 (.slot 5)⟩,
  ⟨some 7, none, .mov (.slot 1)⟩,
  ⟨some 8, none, .bin .sub (.slot 6) (.slot 7)⟩,
  ⟨some 4, none, .mov (.slot 8)⟩]
def c_roster_place_1 : AFn := ⟨(.seq (.region q31R0 false [1, 2]) (.seq (.region q31R1 false [4]) .ret)), [.slot 4]⟩
/- oriel/roster.place -/
def q30R0 : List AOper := [⟨some 4, none, .mov (.const (.int .i64 0))⟩,
  ⟨some 5, none, .mov (.const (.bool false))⟩]
def q30R1 : List AOper := [⟨some 6, none, .mov (.slot 0)⟩,
  ⟨some 7, none, .mov (.slot 1)⟩,
  ⟨some 8, none, .call .inl n_slices_BinarySearchFunc_Member_int [(.slot 6), (.slot 7), (.func n_roster_place_1)]⟩,
  ⟨some 9, none, .extract 0 (.slot 8)⟩,
  ⟨some 10, none, .extract 1 (.slot 8)⟩,
  ⟨some 4, none, .mov (.slot 9)⟩,
  ⟨some 5, none, .mov (.slot 10)⟩]
def c_roster_place : AFn := ⟨(.seq (.region q30R0 false [0, 1]) (.seq (.region q30R1 false [4, 5]) .ret)), [.slot 4, .slot 5]⟩
/- oriel/roster.Find -/
def q23R0 : List AOper := [⟨some 4, none, .alloc [.int .i64 0, .int .i64 0]⟩,
  ⟨some 5, none, .mov (.const (.bool false))⟩]
def q23R1 : List AOper := [⟨some 8, none, .mov (.slot 0)⟩,
  ⟨some 9, none, .call .frz n_roster_May [(.slot 8)]⟩,
  ⟨some 10, none, .not (.slot 9)⟩,
  ⟨some 11, none, .mov (.slot 10)⟩,
  ⟨some 12, some (11, false), .mov (.slot 1)⟩,
  ⟨some 13, some (11, false), .bin .lss (.slot 12) (.const (.int .i64 1))⟩,
  ⟨some 14, none, .pick (.slot 11) (.const (.bool true)) (.slot 13)⟩,
  ⟨some 15, none, .mov (.slot 14)⟩,
  ⟨some 16, some (15, false), .mov (.slot 1)⟩,
  ⟨some 17, some (15, false), .bin .gtr (.slot 16) (.const (.int .i64 8))⟩,
  ⟨some 18, none, .pick (.slot 15) (.const (.bool true)) (.slot 17)⟩]
def q23R2 : List AOper := [⟨some 19, none, .build [.int .i64 0, .int .i64 0] []⟩,
  ⟨none, none, .store true 2 (.slot 4) (.slot 19)⟩,
  ⟨some 5, none, .mov (.const (.bool false))⟩]
def q23R3 : List AOper := [⟨some 21, none, .mov (.slot 0)⟩,
  ⟨some 22, none, .mov (.slot 1)⟩,
  ⟨some 23, none, .call .frz n_roster_place [(.slot 21), (.slot 22)]⟩,
  ⟨some 20, none, .mov (.slot 23)⟩,
  ⟨some 24, none, .extract 0 (.slot 20)⟩,
  ⟨some 25, none, .extract 1 (.slot 20)⟩,
  ⟨some 6, none, .mov (.slot 24)⟩,
  ⟨some 7, none, .mov (.slot 25)⟩]
def q23R4 : List AOper := [⟨some 26, none, .mov (.slot 7)⟩]
def q23R5 : List AOper := [⟨some 27, none, .mov (.slot 0)⟩,
  ⟨some 28, none, .mov (.slot 6)⟩,
  ⟨some 29, none, .idx 2 (.slot 27) (.slot 28)⟩,
  ⟨some 30, none, .load true 2 (.slot 29)⟩,
  ⟨none, none, .store true 2 (.slot 4) (.slot 30)⟩,
  ⟨some 5, none, .mov (.const (.bool true))⟩]
def q23R6 : List AOper := [⟨some 31, none, .build [.int .i64 0, .int .i64 0] []⟩,
  ⟨none, none, .store true 2 (.slot 4) (.slot 31)⟩,
  ⟨some 5, none, .mov (.const (.bool false))⟩]
def c_roster_Find : AFn := ⟨(.seq (.region q23R0 false [0, 1, 4]) (.seq (.seq (.region q23R1 false [0, 1, 4, 18]) (.cond (.slot 18) (.seq (.region q23R2 false [4, 5]) .ret) .skip)) (.seq (.seq (.region q23R3 false [0, 4, 6, 7]) (.seq (.region q23R4 false [0, 4, 6, 26]) (.cond (.slot 26) (.seq (.region q23R5 false [4, 5]) .ret) .skip))) (.seq (.region q23R6 false [4, 5]) .ret)))), [.cell 4 true 2, .slot 5]⟩
/- oriel/token.number -/
def q93R0 : List AOper := [⟨some 2, none, .mov (.const (.bool false))⟩]
def q93R1 : List AOper := [⟨some 3, none, .mov (.slot 0)⟩,
  ⟨some 4, none, .bin .geq (.slot 3) (.const (.int .i64 1))⟩,
  ⟨some 5, none, .mov (.slot 4)⟩,
  ⟨some 6, some (5, true), .mov (.slot 0)⟩,
  ⟨some 7, some (5, true), .bin .leq (.slot 6) (.const (.int .i64 8))⟩,
  ⟨some 8, none, .pick (.slot 5) (.slot 7) (.const (.bool false))⟩,
  ⟨some 2, none, .mov (.slot 8)⟩]
def c_token_number : AFn := ⟨(.seq (.region q93R0 false [0]) (.seq (.region q93R1 false [2]) .ret)), [.slot 2]⟩
/- oriel/token.May -/
def q89R0 : List AOper := [⟨some 1, none, .box 2 (.slot 0)⟩,
  ⟨some 2, none, .mov (.const (.bool false))⟩]
def q89R1 : List AOper := [⟨some 6, none, .faddr 0 (.slot 1)⟩,
  ⟨some 7, none, .load false 1 (.slot 6)⟩,
  ⟨some 8, none, .bin .eql (.slot 7) (.const (.int .i64 0))⟩]
def q89R2 : List AOper := [⟨some 9, none, .faddr 1 (.slot 1)⟩,
  ⟨some 10, none, .load false 1 (.slot 9)⟩,
  ⟨some 11, none, .len false (.slot 10)⟩,
  ⟨some 12, none, .bin .eql (.slot 11) (.const (.int .i64 0))⟩,
  ⟨some 2, none, .mov (.slot 12)⟩]
def q89R3 : List AOper := [⟨some 3, none, .alloc [.bool false, .bool false, .bool false, .bool false, .bool false, .bool false, .bool false, .bool false, .bool false]⟩]
def q89R4 : List AOper := [⟨some 13, none, .faddr 0 (.slot 1)⟩,
  ⟨some 14, none, .load false 1 (.slot 13)⟩,
  ⟨some 15, none, .mkslice 1 1 [.int .i64 0] [(0, (.slot 14))]⟩,
  ⟨some 16, none, .faddr 1 (.slot 1)⟩,
  ⟨some 17, none, .load false 1 (.slot 16)⟩,
  ⟨some 18, none, .append 1 8 (.slot 15) (.slot 17)⟩,
  ⟨some 19, none, .len false (.slot 18)⟩,
  ⟨some 20, none, .mov (.const (.int .i64 0))⟩]
def q89R5 : List AOper := [⟨some 21, none, .bin .lss (.slot 20) (.slot 19)⟩]
def q89R6 : List AOper := [⟨some 22, none, .idx 1 (.slot 18) (.slot 20)⟩,
  ⟨some 23, none, .load false 1 (.slot 22)⟩,
  ⟨some 5, none, .mov (.slot 23)⟩]
def q89R7 : List AOper := [⟨some 24, none, .mov (.slot 5)⟩,
  ⟨some 25, none, .call .frz n_token_number [(.slot 24)]⟩,
  ⟨some 26, none, .not (.slot 25)⟩,
  ⟨some 27, none, .mov (.slot 26)⟩,
  ⟨some 28, some (27, false), .mov (.slot 5)⟩,
  ⟨some 29, some (27, false), .idxarr 1 9 (.slot 3) (.slot 28)⟩,
  ⟨some 30, some (27, false), .load false 1 (.slot 29)⟩,
  ⟨some 31, none, .pick (.slot 27) (.const (.bool true)) (.slot 30)⟩]
def q89R8 : List AOper := [⟨some 2, none, .mov (.const (.bool false))⟩]
def q89R9 : List AOper := [⟨some 32, none, .mov (.slot 5)⟩,
  ⟨some 33, none, .idxarr 1 9 (.slot 3) (.slot 32)⟩,
  ⟨none, none, .store false 1 (.slot 33) (.const (.bool true))⟩]
def q89R10 : List AOper := [⟨some 34, none, .bin .add (.slot 20) (.const (.int .i64 1))⟩,
  ⟨some 20, none, .mov (.slot 34)⟩]
def c_token_May_L0 : ACode := (.seq (.region q89R5 false [3, 18, 19, 20, 21]) (.seq (.cond (.slot 21) .skip (.exit 0)) (.seq (.block 1 (.seq (.region q89R6 false [3, 5, 18, 19, 20]) (.seq (.seq (.region q89R7 false [3, 5, 18, 19, 20, 31]) (.cond (.slot 31) (.seq (.region q89R8 false [2]) .ret) .skip)) (.region q89R9 false [3, 18, 19, 20])))) (.region q89R10 false [3, 18, 19, 20]))))
def lp_token_May_0 : ACode := .loop [3, 18, 19, 20] c_token_May_L0
def q89R11 : List AOper := [⟨some 2, none, .mov (.const (.bool true))⟩]
def c_token_May : AFn := ⟨(.seq (.region q89R0 false [1]) (.seq (.seq (.region q89R1 false [1, 8]) (.cond (.slot 8) (.seq (.region q89R2 false [2]) .ret) .skip)) (.seq (.region q89R3 false [1, 3]) (.seq (.seq (.region q89R4 false [3, 18, 19, 20]) (.block 0 lp_token_May_0)) (.seq (.region q89R11 false [2]) .ret))))), [.slot 2]⟩
/- oriel/merge.piece -/
def q21R0 : List AOper := [⟨some 1, none, .box 3 (.slot 0)⟩,
  ⟨some 2, none, .mov (.const (.bool false))⟩]
def q21R1 : List AOper := ⟨some 3, none, .faddr 0 (.slot 1)⟩ ::
  ⟨some 4, none, .load false 1 (.slot 3)⟩ ::
  ⟨some 5, none, .bin .geq (.slot 4) (.const (.int .i64 1))⟩ ::
  ⟨some 6, none, .mov (.slot 5)⟩ ::
  ⟨some 7, some (6, true), .faddr 0 (.slot 1)⟩ ::
  ⟨some 8, some (6, true), .load false 1 (.slot 7)⟩ ::
  ⟨some 9, some (6, true), .bin .leq (.slot 8) (.const (.int .i64 8))⟩ ::
  ⟨some 10, none, .pick (.slot 6) (.slot 9) (.const (.bool false))⟩ ::
  ⟨some 11, none, .mov (.slot 10)⟩ ::
  ⟨some 12, some (11, true), .faddr 1 (.slot 1)⟩ ::
  ⟨some 13, some (11, true), .load false 1 (.slot 12)⟩ ::
  ⟨some 14, some (11, true), .bin .geq (.slot 13) (.const (.int .i64 1))⟩ ::
  ⟨some 15, none, .pick (.slot 11) (.slot 14) (.const (.bool false))⟩ ::
  ⟨some 16, none, .mov (.slot 15)⟩ ::
  ⟨some 17, some (16, true), .faddr 1 (.slot 1)⟩ ::
  ⟨some 18, some (16, true), .load false 1 (.slot 17)⟩ ::
  ⟨some 19, some (16, true), .bin .leq (.slot 18) (.const (.int .i64 1073741824))⟩ ::
  ⟨some 20, none, .pick (.slot 16) (.slot 19) (.const (.bool false))⟩ ::
  ⟨some 21, none, .mov (.slot 20)⟩ ::
  ⟨some 22, some (21, true), .faddr 2 (.slot 1)⟩ ::
  ⟨some 23, some (21, true), .load false 1 (.slot 22)⟩ ::
  ⟨some 24, some (21, true), .len false (.slot 23)⟩ ::
  ⟨some 25, some (21, true), .bin .geq (.slot 24) (.const (.int .i64 1))⟩ ::
  ⟨some 26, none, .pick (.slot 21) (.slot 25) (.const (.bool false))⟩ ::
  ⟨some 27, none, .mov (.slot 26)⟩ ::
  ⟨some 28, some (27, true), .faddr 2 (.slot 1)⟩ ::
  ⟨some 29, some (27, true), .load false 1 (.slot 28)⟩ ::
  ⟨some 30, some (27, true), .len false (.slot 29)⟩ ::
  ⟨some 31, some (27, true), .bin .leq (.slot 30) (.const (.int .i64 16))⟩ ::
  ⟨some 32, none, .pick (.slot 27) (.slot 31) (.const (.bool false))⟩ ::
  ⟨some 2, none, .mov (.slot 32)⟩ :: []
def c_merge_piece : AFn := ⟨(.seq (.region q21R0 false [1]) (.seq (.region q21R1 false [2]) .ret)), [.slot 2]⟩
/- oriel/merge.May -/
def q16R0 : List AOper := [⟨some 2, none, .mov (.const (.bool false))⟩]
def q16R1 : List AOper := [⟨some 3, none, .mov (.const (.int .i64 0))⟩]
def q16R2 : List AOper := [⟨some 6, none, .mov (.slot 0)⟩,
  ⟨some 7, none, .len false (.slot 6)⟩,
  ⟨some 8, none, .mov (.const (.int .i64 0))⟩]
def q16R3 : List AOper := [⟨some 9, none, .bin .lss (.slot 8) (.slot 7)⟩]
def q16R4 : List AOper := [⟨some 10, none, .idx 3 (.slot 6) (.slot 8)⟩,
  ⟨some 11, none, .load true 3 (.slot 10)⟩,
  ⟨some 5, none, .alloc [.int .i64 0, .int .i64 0, .data false 1 [] true]⟩,
  ⟨none, none, .store true 3 (.slot 5) (.slot 11)⟩]
def q16R5 : List AOper := [⟨some 12, none, .mov (.slot 3)⟩,
  ⟨some 13, none, .faddr 2 (.slot 5)⟩,
  ⟨some 14, none, .load false 1 (.slot 13)⟩,
  ⟨some 15, none, .len false (.slot 14)⟩,
  ⟨some 16, none, .bin .add (.slot 12) (.slot 15)⟩,
  ⟨some 3, none, .mov (.slot 16)⟩]
def q16R6 : List AOper := [⟨some 17, none, .load true 3 (.slot 5)⟩,
  ⟨some 18, none, .call .frz n_merge_piece [(.slot 17)]⟩,
  ⟨some 19, none, .not (.slot 18)⟩,
  ⟨some 20, none, .mov (.slot 19)⟩,
  ⟨some 21, some (20, false), .mov (.slot 3)⟩,
  ⟨some 22, some (20, false), .bin .gtr (.slot 21) (.const (.int .i64 64))⟩,
  ⟨some 23, none, .pick (.slot 20) (.const (.bool true)) (.slot 22)⟩]
def q16R7 : List AOper := [⟨some 2, none, .mov (.const (.bool false))⟩]
def q16R8 : List AOper := [⟨some 24, none, .bin .add (.slot 8) (.const (.int .i64 1))⟩,
  ⟨some 8, none, .mov (.slot 24)⟩]
def c_merge_May_L0 : ACode := (.seq (.region q16R3 false [3, 6, 7, 8, 9]) (.seq (.cond (.slot 9) .skip (.exit 0)) (.seq (.block 1 (.seq (.region q16R4 false [3, 5, 6, 7, 8]) (.seq (.region q16R5 false [3, 5, 6, 7, 8]) (.seq (.region q16R6 false [3, 6, 7, 8, 23]) (.cond (.slot 23) (.seq (.region q16R7 false [2]) .ret) .skip))))) (.region q16R8 false [3, 6, 7, 8]))))
def lp_merge_May_0 : ACode := .loop [3, 6, 7, 8] c_merge_May_L0
def q16R9 : List AOper := [⟨some 2, none, .mov (.const (.bool true))⟩]
def c_merge_May : AFn := ⟨(.seq (.region q16R0 false [0]) (.seq (.region q16R1 false [0, 3]) (.seq (.seq (.region q16R2 false [3, 6, 7, 8]) (.block 0 lp_merge_May_0)) (.seq (.region q16R9 false [2]) .ret)))), [.slot 2]⟩
/- oriel/size.side -/
def q57R0 : List AOper := [⟨some 2, none, .mov (.const (.bool false))⟩]
def q57R1 : List AOper := [⟨some 3, none, .mov (.slot 0)⟩,
  ⟨some 4, none, .bin .geq (.slot 3) (.const (.int .i64 1))⟩,
  ⟨some 5, none, .mov (.slot 4)⟩,
  ⟨some 6, some (5, true), .mov (.slot 0)⟩,
  ⟨some 7, some (5, true), .bin .leq (.slot 6) (.const (.int .i64 1000))⟩,
  ⟨some 8, none, .pick (.slot 5) (.slot 7) (.const (.bool false))⟩,
  ⟨some 2, none, .mov (.slot 8)⟩]
def c_size_side : AFn := ⟨(.seq (.region q57R0 false [0]) (.seq (.region q57R1 false [2]) .ret)), [.slot 2]⟩
/- oriel/size.window -/
def q58R0 : List AOper := [⟨some 1, none, .box 2 (.slot 0)⟩,
  ⟨some 2, none, .mov (.const (.bool false))⟩]
def q58R1 : List AOper := [⟨some 3, none, .load true 2 (.slot 1)⟩,
  ⟨some 4, none, .build [.int .i64 0, .int .i64 0] []⟩,
  ⟨some 5, none, .eq true [.ki, .ki] false (.slot 3) (.slot 4)⟩,
  ⟨some 6, none, .mov (.slot 5)⟩,
  ⟨some 7, some (6, false), .idxarr 1 2 (.slot 1) (.const (.int .i64 0))⟩,
  ⟨some 8, some (6, false), .load false 1 (.slot 7)⟩,
  ⟨some 9, some (6, false), .call .frz n_size_side [(.slot 8)]⟩,
  ⟨some 10, some (6, false), .mov (.slot 9)⟩,
  ⟨some 11, some (10, true), .idxarr 1 2 (.slot 1) (.const (.int .i64 1))⟩,
  ⟨some 12, some (10, true), .load false 1 (.slot 11)⟩,
  ⟨some 13, some (10, true), .call .frz n_size_side [(.slot 12)]⟩,
  ⟨some 14, some (6, false), .pick (.slot 10) (.slot 13) (.const (.bool false))⟩,
  ⟨some 15, none, .pick (.slot 6) (.const (.bool true)) (.slot 14)⟩,
  ⟨some 2, none, .mov (.slot 15)⟩]
def c_size_window : AFn := ⟨(.seq (.region q58R0 false [1]) (.seq (.region q58R1 false [2]) .ret)), [.slot 2]⟩
/- oriel/size.May -/
def q54R0 : List AOper := [⟨some 1, none, .box 18 (.slot 0)⟩,
  ⟨some 2, none, .mov (.const (.bool false))⟩]
def q54R1 : List AOper := [⟨some 4, none, .mov (.const (.int .i64 0))⟩]
def q54R2 : List AOper := [⟨some 5, none, .bin .lss (.slot 4) (.const (.int .i64 9))⟩]
def q54R3 : List AOper := [⟨some 6, none, .mov (.slot 4)⟩,
  ⟨some 3, none, .mov (.slot 6)⟩]
def q54R4 : List AOper := [⟨some 7, none, .mov (.slot 3)⟩,
  ⟨some 8, none, .idxarr 2 9 (.slot 1) (.slot 7)⟩,
  ⟨some 9, none, .load true 2 (.slot 8)⟩,
  ⟨some 10, none, .call .frz n_size_window [(.slot 9)]⟩,
  ⟨some 11, none, .not (.slot 10)⟩,
  ⟨some 12, none, .mov (.slot 11)⟩,
  ⟨some 13, some (12, false), .mov (.slot 3)⟩,
  ⟨some 14, some (12, false), .bin .eql (.slot 13) (.const (.int .i64 0))⟩,
  ⟨some 15, some (12, false), .mov (.slot 14)⟩,
  ⟨some 16, some (15, true), .mov (.slot 3)⟩,
  ⟨some 17, some (15, true), .idxarr 2 9 (.slot 1) (.slot 16)⟩,
  ⟨some 18, some (15, true), .load true 2 (.slot 17)⟩,
  ⟨some 19, some (15, true), .build [.int .i64 0, .int .i64 0] []⟩,
  ⟨some 20, some (15, true), .eq true [.ki, .ki] true (.slot 18) (.slot 19)⟩,
  ⟨some 21, some (12, false), .pick (.slot 15) (.slot 20) (.const (.bool false))⟩,
  ⟨some 22, none, .pick (.slot 12) (.const (.bool true)) (.slot 21)⟩]
def q54R5 : List AOper := [⟨some 2, none, .mov (.const (.bool false))⟩]
def q54R6 : List AOper := [⟨some 23, none, .bin .add (.slot 4) (.const (.int .i64 1))⟩,
  ⟨some 4, none, .mov (.slot 23)⟩]
def c_size_May_L0 : ACode := (.seq (.region q54R2 false [1, 4, 5]) (.seq (.cond (.slot 5) .skip (.exit 0)) (.seq (.block 1 (.seq (.region q54R3 false [1, 3, 4]) (.seq (.region q54R4 false [1, 4, 22]) (.cond (.slot 22) (.seq (.region q54R5 false [2]) .ret) .skip)))) (.region q54R6 false [1, 4]))))
def lp_size_May_0 : ACode := .loop [1, 4] c_size_May_L0
def q54R7 : List AOper := [⟨some 2, none, .mov (.const (.bool true))⟩]
def c_size_May : AFn := ⟨(.seq (.region q54R0 false [1]) (.seq (.seq (.region q54R1 false [1, 4]) (.block 0 lp_size_May_0)) (.seq (.region q54R7 false [2]) .ret))), [.slot 2]⟩
/- oriel/session.writes -/
def q52R0 : List AOper := [⟨some 2, none, .box 33 (.slot 0)⟩,
  ⟨some 4, none, .mov (.const (.bool false))⟩]
def q52R1 : List AOper := [⟨some 8, none, .faddr 0 (.slot 2)⟩,
  ⟨some 9, none, .load false 1 (.slot 8)⟩,
  ⟨some 10, none, .mov (.slot 1)⟩,
  ⟨some 11, none, .call .frz n_roster_Find [(.slot 9), (.slot 10)]⟩,
  ⟨some 7, none, .mov (.slot 11)⟩,
  ⟨some 12, none, .extract 0 (.slot 7)⟩,
  ⟨some 13, none, .extract 1 (.slot 7)⟩,
  ⟨some 5, none, .alloc [.int .i64 0, .int .i64 0]⟩,
  ⟨none, none, .store true 2 (.slot 5) (.slot 12)⟩,
  ⟨some 6, none, .mov (.slot 13)⟩]
def q52R2 : List AOper := [⟨some 14, none, .mov (.slot 6)⟩,
  ⟨some 15, none, .mov (.slot 14)⟩,
  ⟨some 16, some (15, true), .faddr 1 (.slot 5)⟩,
  ⟨some 17, some (15, true), .load false 1 (.slot 16)⟩,
  ⟨some 18, some (15, true), .bin .eql (.slot 17) (.const (.int .i64 2))⟩,
  ⟨some 19, none, .pick (.slot 15) (.slot 18) (.const (.bool false))⟩,
  ⟨some 4, none, .mov (.slot 19)⟩]
def c_session_writes : AFn := ⟨(.seq (.region q52R0 false [1, 2]) (.seq (.region q52R1 false [5, 6]) (.seq (.region q52R2 false [4]) .ret))), [.slot 4]⟩
/- slices.IndexFunc[[]int,int] -/
def q77R0 : List AOper := [⟨some 4, none, .mov (.const (.int .i64 0))⟩]
def q77R1 : List AOper := [⟨some 6, none, .mov (.slot 0)⟩,
  ⟨some 7, none, .len false (.slot 6)⟩,
  ⟨some 8, none, .mov (.const (.int .i64 0))⟩]
def q77R2 : List AOper := [⟨some 9, none, .bin .lss (.slot 8) (.slot 7)⟩]
def q77R3 : List AOper := [⟨some 10, none, .mov (.slot 8)⟩,
  ⟨some 5, none, .mov (.slot 10)⟩]
def q77R4 : List AOper := [⟨some 11, none, .mov (.slot 1)⟩,
  ⟨some 12, none, .mov (.slot 0)⟩,
  ⟨some 13, none, .mov (.slot 5)⟩,
  ⟨some 14, none, .idx 1 (.slot 12) (.slot 13)⟩,
  ⟨some 15, none, .load false 1 (.slot 14)⟩,
  ⟨some 16, none, .callv (.slot 11) [(.slot 15)]⟩]
def q77R5 : List AOper := [⟨some 17, none, .mov (.slot 5)⟩,
  ⟨some 4, none, .mov (.slot 17)⟩]
def q77R6 : List AOper := [⟨some 18, none, .bin .add (.slot 8) (.const (.int .i64 1))⟩,
  ⟨some 8, none, .mov (.slot 18)⟩]
def c_slices_IndexFunc_int_L0 : ACode := (.seq (.region q77R2 false [0, 1, 7, 8, 9]) (.seq (.cond (.slot 9) .skip (.exit 0)) (.seq (.block 1 (.seq (.region q77R3 false [0, 1, 5, 7, 8]) (.seq (.region q77R4 false [0, 1, 5, 7, 8, 16]) (.cond (.slot 16) (.seq (.region q77R5 false [4]) .ret) .skip)))) (.region q77R6 false [0, 1, 7, 8]))))
def lp_slices_IndexFunc_int_0 : ACode := .loop [0, 1, 7, 8] c_slices_IndexFunc_int_L0
def q77R7 : List AOper := [⟨some 4, none, .mov (.const (.int .i64 (-1)))⟩]
def c_slices_IndexFunc_int : AFn := ⟨(.seq (.region q77R0 false [0, 1]) (.seq (.seq (.region q77R1 false [0, 1, 7, 8]) (.block 0 lp_slices_IndexFunc_int_0)) (.seq (.region q77R7 false [4]) .ret))), [.slot 4]⟩
/- slices.ContainsFunc[[]int,int] -/
def q65R0 : List AOper := [⟨some 4, none, .mov (.const (.bool false))⟩]
def q65R1 : List AOper := [⟨some 5, none, .mov (.slot 0)⟩,
  ⟨some 6, none, .mov (.slot 1)⟩,
  ⟨some 7, none, .call .inl n_slices_IndexFunc_int [(.slot 5), (.slot 6)]⟩,
  ⟨some 8, none, .bin .geq (.slot 7) (.const (.int .i64 0))⟩,
  ⟨some 4, none, .mov (.slot 8)⟩]
def c_slices_ContainsFunc_int : AFn := ⟨(.seq (.region q65R0 false [0, 1]) (.seq (.region q65R1 false [4]) .ret)), [.slot 4]⟩
/- oriel/session.May'1 -/
def q38R0 : List AOper := [⟨some 3, none, .mov (.const (.bool false))⟩]
def q38R1 : List AOper := [⟨some 4, none, .load true 33 (.slot 1)⟩,
  ⟨some 5, none, .mov (.slot 0)⟩,
  ⟨some 6, none, .call .frz n_session_writes [(.slot 4), (.slot 5)]⟩,
  ⟨some 7, none, .not (.slot 6)⟩,
  ⟨some 3, none, .mov (.slot 7)⟩]
def c_session_May_1 : AFn := ⟨(.seq (.region q38R0 false [0, 1]) (.seq (.region q38R1 false [3]) .ret)), [.slot 3]⟩
/- slices.IndexFunc[[]oriel/api.Typed,oriel/api.Typed] -/
def q76R0 : List AOper := [⟨some 4, none, .mov (.const (.int .i64 0))⟩]
def q76R1 : List AOper := [⟨some 6, none, .mov (.slot 0)⟩,
  ⟨some 7, none, .len false (.slot 6)⟩,
  ⟨some 8, none, .mov (.const (.int .i64 0))⟩]
def q76R2 : List AOper := [⟨some 9, none, .bin .lss (.slot 8) (.slot 7)⟩]
def q76R3 : List AOper := [⟨some 10, none, .mov (.slot 8)⟩,
  ⟨some 5, none, .mov (.slot 10)⟩]
def q76R4 : List AOper := [⟨some 11, none, .mov (.slot 1)⟩,
  ⟨some 12, none, .mov (.slot 0)⟩,
  ⟨some 13, none, .mov (.slot 5)⟩,
  ⟨some 14, none, .idx 3 (.slot 12) (.slot 13)⟩,
  ⟨some 15, none, .load true 3 (.slot 14)⟩,
  ⟨some 16, none, .callv (.slot 11) [(.slot 15)]⟩]
def q76R5 : List AOper := [⟨some 17, none, .mov (.slot 5)⟩,
  ⟨some 4, none, .mov (.slot 17)⟩]
def q76R6 : List AOper := [⟨some 18, none, .bin .add (.slot 8) (.const (.int .i64 1))⟩,
  ⟨some 8, none, .mov (.slot 18)⟩]
def c_slices_IndexFunc_Typed_L0 : ACode := (.seq (.region q76R2 false [0, 1, 7, 8, 9]) (.seq (.cond (.slot 9) .skip (.exit 0)) (.seq (.block 1 (.seq (.region q76R3 false [0, 1, 5, 7, 8]) (.seq (.region q76R4 false [0, 1, 5, 7, 8, 16]) (.cond (.slot 16) (.seq (.region q76R5 false [4]) .ret) .skip)))) (.region q76R6 false [0, 1, 7, 8]))))
def lp_slices_IndexFunc_Typed_0 : ACode := .loop [0, 1, 7, 8] c_slices_IndexFunc_Typed_L0
def q76R7 : List AOper := [⟨some 4, none, .mov (.const (.int .i64 (-1)))⟩]
def c_slices_IndexFunc_Typed : AFn := ⟨(.seq (.region q76R0 false [0, 1]) (.seq (.seq (.region q76R1 false [0, 1, 7, 8]) (.block 0 lp_slices_IndexFunc_Typed_0)) (.seq (.region q76R7 false [4]) .ret))), [.slot 4]⟩
/- slices.ContainsFunc[[]oriel/api.Typed,oriel/api.Typed] -/
def q64R0 : List AOper := [⟨some 4, none, .mov (.const (.bool false))⟩]
def q64R1 : List AOper := [⟨some 5, none, .mov (.slot 0)⟩,
  ⟨some 6, none, .mov (.slot 1)⟩,
  ⟨some 7, none, .call .inl n_slices_IndexFunc_Typed [(.slot 5), (.slot 6)]⟩,
  ⟨some 8, none, .bin .geq (.slot 7) (.const (.int .i64 0))⟩,
  ⟨some 4, none, .mov (.slot 8)⟩]
def c_slices_ContainsFunc_Typed : AFn := ⟨(.seq (.region q64R0 false [0, 1]) (.seq (.region q64R1 false [4]) .ret)), [.slot 4]⟩
/- oriel/session.May'2 -/
def q39R0 : List AOper := [⟨some 2, none, .box 3 (.slot 0)⟩,
  ⟨some 3, none, .mov (.const (.bool false))⟩]
def q39R1 : List AOper := [⟨some 7, none, .faddr 0 (.slot 1)⟩,
  ⟨some 8, none, .load false 1 (.slot 7)⟩,
  ⟨some 9, none, .faddr 0 (.slot 2)⟩,
  ⟨some 10, none, .load false 1 (.slot 9)⟩,
  ⟨some 11, none, .call .frz n_roster_Find [(.slot 8), (.slot 10)]⟩,
  ⟨some 6, none, .mov (.slot 11)⟩,
  ⟨some 12, none, .extract 0 (.slot 6)⟩,
  ⟨some 13, none, .extract 1 (.slot 6)⟩,
  ⟨some 4, none, .alloc [.int .i64 0, .int .i64 0]⟩,
  ⟨none, none, .store true 2 (.slot 4) (.slot 12)⟩,
  ⟨some 5, none, .mov (.slot 13)⟩]
def q39R2 : List AOper := [⟨some 14, none, .mov (.slot 5)⟩,
  ⟨some 15, none, .not (.slot 14)⟩,
  ⟨some 16, none, .mov (.slot 15)⟩,
  ⟨some 17, some (16, false), .faddr 1 (.slot 2)⟩,
  ⟨some 18, some (16, false), .load false 1 (.slot 17)⟩,
  ⟨some 19, some (16, false), .faddr 0 (.slot 2)⟩,
  ⟨some 20, some (16, false), .load false 1 (.slot 19)⟩,
  ⟨some 21, some (16, false), .faddr 24 (.slot 1)⟩,
  ⟨some 22, some (16, false), .idxarr 1 9 (.slot 21) (.slot 20)⟩,
  ⟨some 23, some (16, false), .load false 1 (.slot 22)⟩,
  ⟨some 24, some (16, false), .bin .gtr (.slot 18) (.slot 23)⟩,
  ⟨some 25, none, .pick (.slot 16) (.const (.bool true)) (.slot 24)⟩,
  ⟨some 3, none, .mov (.slot 25)⟩]
def c_session_May_2 : AFn := ⟨(.seq (.region q39R0 false [1, 2]) (.seq (.region q39R1 false [1, 2, 5]) (.seq (.region q39R2 true [3]) .ret))), [.slot 3]⟩
/- oriel/session.May -/
def q37R0 : List AOper := [⟨some 1, none, .box 33 (.slot 0)⟩,
  ⟨some 2, none, .mov (.const (.bool false))⟩]
def q37R1 : List AOper := [⟨some 7, none, .faddr 0 (.slot 1)⟩,
  ⟨some 8, none, .load false 1 (.slot 7)⟩,
  ⟨some 9, none, .call .frz n_roster_May [(.slot 8)]⟩,
  ⟨some 10, none, .not (.slot 9)⟩,
  ⟨some 11, none, .mov (.slot 10)⟩,
  ⟨some 12, some (11, false), .faddr 1 (.slot 1)⟩,
  ⟨some 13, some (11, false), .load true 2 (.slot 12)⟩,
  ⟨some 14, some (11, false), .call .frz n_token_May [(.slot 13)]⟩,
  ⟨some 15, some (11, false), .not (.slot 14)⟩,
  ⟨some 16, none, .pick (.slot 11) (.const (.bool true)) (.slot 15)⟩,
  ⟨some 17, none, .mov (.slot 16)⟩,
  ⟨some 18, some (17, false), .faddr 3 (.slot 1)⟩,
  ⟨some 19, some (17, false), .load false 1 (.slot 18)⟩,
  ⟨some 20, some (17, false), .call .frz n_merge_May [(.slot 19)]⟩,
  ⟨some 21, some (17, false), .not (.slot 20)⟩,
  ⟨some 22, none, .pick (.slot 17) (.const (.bool true)) (.slot 21)⟩,
  ⟨some 23, none, .mov (.slot 22)⟩,
  ⟨some 24, some (23, false), .faddr 4 (.slot 1)⟩,
  ⟨some 25, some (23, false), .load true 18 (.slot 24)⟩,
  ⟨some 26, some (23, false), .call .frz n_size_May [(.slot 25)]⟩,
  ⟨some 27, some (23, false), .not (.slot 26)⟩,
  ⟨some 28, none, .pick (.slot 23) (.const (.bool true)) (.slot 27)⟩]
def q37R2 : List AOper := [⟨some 2, none, .mov (.const (.bool false))⟩]
def q37R3 : List AOper := [⟨some 29, none, .faddr 22 (.slot 1)⟩,
  ⟨some 30, none, .load false 1 (.slot 29)⟩,
  ⟨some 31, none, .bin .lss (.slot 30) (.const (.int .i64 1))⟩,
  ⟨some 32, none, .mov (.slot 31)⟩,
  ⟨some 33, some (32, false), .faddr 22 (.slot 1)⟩,
  ⟨some 34, some (32, false), .load false 1 (.slot 33)⟩,
  ⟨some 35, some (32, false), .bin .gtr (.slot 34) (.const (.int .i64 24))⟩,
  ⟨some 36, none, .pick (.slot 32) (.const (.bool true)) (.slot 35)⟩,
  ⟨some 37, none, .mov (.slot 36)⟩,
  ⟨some 38, some (37, false), .faddr 23 (.slot 1)⟩,
  ⟨some 39, some (37, false), .load false 1 (.slot 38)⟩,
  ⟨some 40, some (37, false), .bin .lss (.slot 39) (.const (.int .i64 1))⟩,
  ⟨some 41, none, .pick (.slot 37) (.const (.bool true)) (.slot 40)⟩,
  ⟨some 42, none, .mov (.slot 41)⟩,
  ⟨some 43, some (42, false), .faddr 23 (.slot 1)⟩,
  ⟨some 44, some (42, false), .load false 1 (.slot 43)⟩,
  ⟨some 45, some (42, false), .bin .gtr (.slot 44) (.const (.int .i64 40))⟩,
  ⟨some 46, none, .pick (.slot 42) (.const (.bool true)) (.slot 45)⟩]
def q37R4 : List AOper := [⟨some 2, none, .mov (.const (.bool false))⟩]
def q37R5 : List AOper := [⟨some 47, none, .faddr 1 (.slot 1)⟩,
  ⟨some 48, none, .faddr 0 (.slot 47)⟩,
  ⟨some 49, none, .load false 1 (.slot 48)⟩,
  ⟨some 50, none, .bin .neq (.slot 49) (.const (.int .i64 0))⟩,
  ⟨some 51, none, .mov (.slot 50)⟩,
  ⟨some 52, some (51, true), .load true 33 (.slot 1)⟩,
  ⟨some 53, some (51, true), .faddr 1 (.slot 1)⟩,
  ⟨some 54, some (51, true), .faddr 0 (.slot 53)⟩,
  ⟨some 55, some (51, true), .load false 1 (.slot 54)⟩,
  ⟨some 56, some (51, true), .call .frz n_session_writes [(.slot 52), (.slot 55)]⟩,
  ⟨some 57, some (51, true), .not (.slot 56)⟩,
  ⟨some 58, none, .pick (.slot 51) (.slot 57) (.const (.bool false))⟩,
  ⟨some 59, none, .mov (.slot 58)⟩,
  ⟨some 60, some (59, false), .faddr 1 (.slot 1)⟩,
  ⟨some 61, some (59, false), .faddr 1 (.slot 60)⟩,
  ⟨some 62, some (59, false), .load false 1 (.slot 61)⟩,
  ⟨some 63, some (59, false), .mkfn (.func n_session_May_1) [] [(.slot 1)]⟩,
  ⟨some 64, some (59, false), .call .inl n_slices_ContainsFunc_int [(.slot 62), (.slot 63)]⟩,
  ⟨some 65, none, .pick (.slot 59) (.const (.bool true)) (.slot 64)⟩]
def q37R6 : List AOper := [⟨some 2, none, .mov (.const (.bool false))⟩]
def q37R7 : List AOper := [⟨some 66, none, .faddr 24 (.slot 1)⟩,
  ⟨some 67, none, .load true 9 (.slot 66)⟩,
  ⟨some 68, none, .mov (.const (.int .i64 0))⟩]
def q37R8 : List AOper := [⟨some 69, none, .bin .lss (.slot 68) (.const (.int .i64 9))⟩]
def q37R9 : List AOper := [⟨some 70, none, .mov (.slot 68)⟩,
  ⟨some 71, none, .idxv false 1 9 (.slot 67) (.slot 68)⟩,
  ⟨some 3, none, .mov (.slot 70)⟩,
  ⟨some 4, none, .mov (.slot 71)⟩]
def q37R10 : List AOper := [⟨some 73, none, .faddr 0 (.slot 1)⟩,
  ⟨some 74, none, .load false 1 (.slot 73)⟩,
  ⟨some 75, none, .mov (.slot 3)⟩,
  ⟨some 76, none, .call .frz n_roster_Find [(.slot 74), (.slot 75)]⟩,
  ⟨some 72, none, .mov (.slot 76)⟩,
  ⟨some 77, none, .extract 0 (.slot 72)⟩,
  ⟨some 78, none, .extract 1 (.slot 72)⟩,
  ⟨some 5, none, .alloc [.int .i64 0, .int .i64 0]⟩,
  ⟨none, none, .store true 2 (.slot 5) (.slot 77)⟩,
  ⟨some 6, none, .mov (.slot 78)⟩]
def q37R11 : List AOper := [⟨some 79, none, .mov (.slot 4)⟩,
  ⟨some 80, none, .bin .lss (.slot 79) (.const (.int .i64 0))⟩,
  ⟨some 81, none, .mov (.slot 80)⟩,
  ⟨some 82, some (81, false), .mov (.slot 4)⟩,
  ⟨some 83, some (81, false), .bin .gtr (.slot 82) (.const (.int .i64 1073741824))⟩,
  ⟨some 84, none, .pick (.slot 81) (.const (.bool true)) (.slot 83)⟩,
  ⟨some 85, none, .mov (.slot 84)⟩,
  ⟨some 86, some (85, false), .mov (.slot 6)⟩,
  ⟨some 87, some (85, false), .not (.slot 86)⟩,
  ⟨some 88, some (85, false), .mov (.slot 87)⟩,
  ⟨some 89, some (88, true), .mov (.slot 4)⟩,
  ⟨some 90, some (88, true), .bin .neq (.slot 89) (.const (.int .i64 0))⟩,
  ⟨some 91, some (88, true), .mov (.slot 90)⟩,
  ⟨some 92, some (91, false), .mov (.slot 3)⟩,
  ⟨some 93, some (91, false), .faddr 4 (.slot 1)⟩,
  ⟨some 94, some (91, false), .idxarr 2 9 (.slot 93) (.slot 92)⟩,
  ⟨some 95, some (91, false), .load true 2 (.slot 94)⟩,
  ⟨some 96, some (91, false), .build [.int .i64 0, .int .i64 0] []⟩,
  ⟨some 97, some (91, false), .eq true [.ki, .ki] true (.slot 95) (.slot 96)⟩,
  ⟨some 98, some (88, true), .pick (.slot 91) (.const (.bool true)) (.slot 97)⟩,
  ⟨some 99, some (85, false), .pick (.slot 88) (.slot 98) (.const (.bool false))⟩,
  ⟨some 100, none, .pick (.slot 85) (.const (.bool true)) (.slot 99)⟩]
def q37R12 : List AOper := [⟨some 2, none, .mov (.const (.bool false))⟩]
def q37R13 : List AOper := [⟨some 101, none, .bin .add (.slot 68) (.const (.int .i64 1))⟩,
  ⟨some 68, none, .mov (.slot 101)⟩]
def c_session_May_L0 : ACode := (.seq (.region q37R8 false [1, 67, 68, 69]) (.seq (.cond (.slot 69) .skip (.exit 0)) (.seq (.block 1 (.seq (.region q37R9 false [1, 3, 4, 67, 68]) (.seq (.region q37R10 false [1, 3, 4, 6, 67, 68]) (.seq (.region q37R11 false [1, 67, 68, 100]) (.cond (.slot 100) (.seq (.region q37R12 false [2]) .ret) .skip))))) (.region q37R13 false [1, 67, 68]))))
def lp_session_May_0 : ACode := .loop [1, 67, 68] c_session_May_L0
def q37R14 : List AOper := [⟨some 102, none, .faddr 3 (.slot 1)⟩,
  ⟨some 103, none, .load false 1 (.slot 102)⟩,
  ⟨some 104, none, .mkfn (.func n_session_May_2) [] [(.slot 1)]⟩,
  ⟨some 105, none, .call .inl n_slices_ContainsFunc_Typed [(.slot 103), (.slot 104)]⟩,
  ⟨some 106, none, .not (.slot 105)⟩,
  ⟨some 2, none, .mov (.slot 106)⟩]
def c_session_May : AFn := ⟨(.seq (.region q37R0 false [1]) (.seq (.seq (.region q37R1 false [1, 28]) (.cond (.slot 28) (.seq (.region q37R2 false [2]) .ret) .skip)) (.seq (.seq (.region q37R3 false [1, 46]) (.cond (.slot 46) (.seq (.region q37R4 false [2]) .ret) .skip)) (.seq (.seq (.region q37R5 false [1, 65]) (.cond (.slot 65) (.seq (.region q37R6 false [2]) .ret) .skip)) (.seq (.seq (.region q37R7 false [1, 67, 68]) (.block 0 lp_session_May_0)) (.seq (.region q37R14 false [2]) .ret)))))), [.slot 2]⟩
/- slices.Insert[[]oriel/api.Member,oriel/api.Member] -/
def q79R0 : List AOper := [⟨some 6, none, .mov (.const (.data false 2 [] true))⟩]
def q79R1 : List AOper := [⟨some 10, none, .mov (.slot 0)⟩,
  ⟨some 11, none, .mov (.slot 1)⟩,
  ⟨some 12, none, .sl 2 (.slot 10) (some (.slot 11)) none none⟩]
def q79R2 : List AOper := [⟨some 13, none, .mov (.slot 2)⟩,
  ⟨some 14, none, .len false (.slot 13)⟩,
  ⟨some 7, none, .mov (.slot 14)⟩]
def q79R3 : List AOper := [⟨some 15, none, .mov (.slot 7)⟩,
  ⟨some 16, none, .bin .eql (.slot 15) (.const (.int .i64 0))⟩]
def q79R4 : List AOper := [⟨some 17, none, .mov (.slot 0)⟩,
  ⟨some 6, none, .mov (.slot 17)⟩]
def q79R5 : List AOper := [⟨some 18, none, .mov (.slot 0)⟩,
  ⟨some 19, none, .len false (.slot 18)⟩,
  ⟨some 8, none, .mov (.slot 19)⟩]
def q79R6 : List AOper := [⟨some 20, none, .mov (.slot 1)⟩,
  ⟨some 21, none, .mov (.slot 8)⟩,
  ⟨some 22, none, .bin .eql (.slot 20) (.slot 21)⟩]
def q79R7 : List AOper := [⟨some 23, none, .mov (.slot 0)⟩,
  ⟨some 24, none, .mov (.slot 2)⟩,
  ⟨some 25, none, .append 2 16 (.slot 23) (.slot 24)⟩,
  ⟨some 6, none, .mov (.slot 25)⟩]
def q79R10 : List AOper := [⟨some 41, none, .mov (.slot 9)⟩,
  ⟨some 42, none, .mov (.slot 1)⟩,
  ⟨some 43, none, .sl 2 (.slot 41) (some (.slot 42)) none none⟩,
  ⟨some 44, none, .mov (.slot 2)⟩,
  ⟨some 45, none, .copy 2 (.slot 43) (.slot 44)⟩]
def q79R11 : List AOper := [⟨some 46, none, .mov (.slot 9)⟩,
  ⟨some 47, none, .mov (.slot 1)⟩,
  ⟨some 48, none, .mov (.slot 7)⟩,
  ⟨some 49, none, .bin .add (.slot 47) (.slot 48)⟩,
  ⟨some 50, none, .sl 2 (.slot 46) (some (.slot 49)) none none⟩,
  ⟨some 51, none, .mov (.slot 0)⟩,
  ⟨some 52, none, .mov (.slot 1)⟩,
  ⟨some 53, none, .sl 2 (.slot 51) (some (.slot 52)) none none⟩,
  ⟨some 54, none, .copy 2 (.slot 50) (.slot 53)⟩]
def q79R12 : List AOper := [⟨some 55, none, .mov (.slot 9)⟩,
  ⟨some 6, none, .mov (.slot 55)⟩]
def q79R13 : List AOper := [⟨some 56, none, .mov (.slot 0)⟩,
  ⟨some 57, none, .mov (.slot 8)⟩,
  ⟨some 58, none, .mov (.slot 7)⟩,
  ⟨some 59, none, .bin .add (.slot 57) (.slot 58)⟩,
  ⟨some 60, none, .sl 2 (.slot 56) none (some (.slot 59)) none⟩,
  ⟨some 0, none, .mov (.slot 60)⟩]
def q79R14 : List AOper := [⟨some 61, none, .mov (.slot 2)⟩,
  ⟨some 62, none, .mov (.slot 0)⟩,
  ⟨some 63, none, .mov (.slot 1)⟩,
  ⟨some 64, none, .mov (.slot 7)⟩,
  ⟨some 65, none, .bin .add (.slot 63) (.slot 64)⟩,
  ⟨some 66, none, .sl 2 (.slot 62) (some (.slot 65)) none none⟩,
  ⟨some 67, none, .call .frz n_slices_overlaps_Member [(.slot 61), (.slot 66)]⟩,
  ⟨some 68, none, .not (.slot 67)⟩]
def q79R15 : List AOper := [⟨some 69, none, .mov (.slot 0)⟩,
  ⟨some 70, none, .mov (.slot 1)⟩,
  ⟨some 71, none, .mov (.slot 7)⟩,
  ⟨some 72, none, .bin .add (.slot 70) (.slot 71)⟩,
  ⟨some 73, none, .sl 2 (.slot 69) (some (.slot 72)) none none⟩,
  ⟨some 74, none, .mov (.slot 0)⟩,
  ⟨some 75, none, .mov (.slot 1)⟩,
  ⟨some 76, none, .sl 2 (.slot 74) (some (.slot 75)) none none⟩,
  ⟨some 77, none, .copy 2 (.slot 73) (.slot 76)⟩]
def q79R16 : List AOper := [⟨some 78, none, .mov (.slot 0)⟩,
  ⟨some 79, none, .mov (.slot 1)⟩,
  ⟨some 80, none, .sl 2 (.slot 78) (some (.slot 79)) none none⟩,
  ⟨some 81, none, .mov (.slot 2)⟩,
  ⟨some 82, none, .copy 2 (.slot 80) (.slot 81)⟩]
def q79R17 : List AOper := [⟨some 83, none, .mov (.slot 0)⟩,
  ⟨some 6, none, .mov (.slot 83)⟩]
def q79R18 : List AOper := [⟨some 84, none, .mov (.slot 0)⟩,
  ⟨some 85, none, .mov (.slot 8)⟩,
  ⟨some 86, none, .sl 2 (.slot 84) (some (.slot 85)) none none⟩,
  ⟨some 87, none, .mov (.slot 2)⟩,
  ⟨some 88, none, .copy 2 (.slot 86) (.slot 87)⟩]
def q79R19 : List AOper := [⟨some 89, none, .mov (.slot 0)⟩,
  ⟨some 90, none, .mov (.slot 1)⟩,
  ⟨some 91, none, .sl 2 (.slot 89) (some (.slot 90)) none none⟩,
  ⟨some 92, none, .mov (.slot 7)⟩,
  ⟨some 93, none, .call .frz n_slices_rotateRight_Member [(.slot 91), (.slot 92)]⟩]
def q79R20 : List AOper := [⟨some 94, none, .mov (.slot 0)⟩,
  ⟨some 6, none, .mov (.slot 94)⟩]
def c_slices_Insert_Member : AFn := ⟨(.seq (.region q79R0 false [0, 1, 2]) (.seq (.region q79R1 false [0, 1, 2]) (.seq (.region q79R2 false [0, 1, 2, 7]) (.seq (.seq (.region q79R3 false [0, 1, 2, 7, 16]) (.cond (.slot 16) (.seq (.region q79R4 false [6]) .ret) .skip)) (.seq (.region q79R5 false [0, 1, 2, 7, 8]) (.seq (.seq (.region q79R6 false [0, 1, 2, 7, 8, 22]) (.cond (.slot 22) (.seq (.region q79R7 false [6]) .ret) .skip)) (.seq (.seq .dead (.cond (.slot 31) (.seq .dead (.seq (.region q79R10 false [0, 1, 7, 9]) (.seq (.region q79R11 true [9]) (.seq (.region q79R12 false [6]) .ret)))) .skip)) (.seq (.region q79R13 false [0, 1, 2, 7, 8]) (.seq (.seq (.region q79R14 false [0, 1, 2, 7, 8, 68]) (.cond (.slot 68) (.seq (.region q79R15 true [0, 1, 2]) (.seq (.region q79R16 false [0]) (.seq (.region q79R17 false [6]) .ret))) .skip)) (.seq (.region q79R18 false [0, 1, 7]) (.seq (.region q79R19 false [0]) (.seq (.region q79R20 false [6]) .ret)))))))))))), [.slot 6]⟩
/- slices.Clone[[]oriel/api.Member,oriel/api.Member] -/
def q60R0 : List AOper := [⟨some 2, none, .mov (.const (.data false 2 [] true))⟩]
def q60R1 : List AOper := [⟨some 3, none, .mov (.slot 0)⟩,
  ⟨some 4, none, .isnil .ks false (.slot 3)⟩]
def q60R2 : List AOper := [⟨some 2, none, .mov (.const (.data false 2 [] true))⟩]
def q60R3 : List AOper := [⟨some 5, none, .mkslice 2 0 [.int .i64 0, .int .i64 0] []⟩,
  ⟨some 6, none, .mov (.slot 0)⟩,
  ⟨some 7, none, .append 2 16 (.slot 5) (.slot 6)⟩,
  ⟨some 2, none, .mov (.slot 7)⟩]
def c_slices_Clone_Member : AFn := ⟨(.seq (.region q60R0 false [0]) (.seq (.seq (.region q60R1 false [0, 4]) (.cond (.slot 4) (.seq (.region q60R2 false [2]) .ret) .skip)) (.seq (.region q60R3 false [2]) .ret))), [.slot 2]⟩
/- oriel/roster.Join -/
def q24R0 : List AOper := [⟨some 6, none, .mov (.const (.data false 2 [] true))⟩,
  ⟨some 7, none, .mov (.const (.int .i64 0))⟩]
def q24R1 : List AOper := [⟨some 10, none, .mov (.slot 0)⟩,
  ⟨some 11, none, .call .frz n_roster_May [(.slot 10)]⟩,
  ⟨some 12, none, .not (.slot 11)⟩,
  ⟨some 13, none, .mov (.slot 12)⟩,
  ⟨some 14, some (13, false), .mov (.slot 1)⟩,
  ⟨some 15, some (13, false), .bin .lss (.slot 14) (.const (.int .i64 1))⟩,
  ⟨some 16, none, .pick (.slot 13) (.const (.bool true)) (.slot 15)⟩,
  ⟨some 17, none, .mov (.slot 16)⟩,
  ⟨some 18, some (17, false), .mov (.slot 1)⟩,
  ⟨some 19, some (17, false), .bin .gtr (.slot 18) (.const (.int .i64 8))⟩,
  ⟨some 20, none, .pick (.slot 17) (.const (.bool true)) (.slot 19)⟩,
  ⟨some 21, none, .mov (.slot 20)⟩,
  ⟨some 22, some (21, false), .mov (.slot 2)⟩,
  ⟨some 23, some (21, false), .call .frz n_roster_role [(.slot 22)]⟩,
  ⟨some 24, some (21, false), .not (.slot 23)⟩,
  ⟨some 25, none, .pick (.slot 21) (.const (.bool true)) (.slot 24)⟩]
def q24R2 : List AOper := [⟨some 6, none, .mov (.const (.data false 2 [] true))⟩,
  ⟨some 7, none, .mov (.const (.int .i64 2))⟩]
def q24R3 : List AOper := [⟨some 27, none, .mov (.slot 0)⟩,
  ⟨some 28, none, .mov (.slot 1)⟩,
  ⟨some 29, none, .call .frz n_roster_place [(.slot 27), (.slot 28)]⟩,
  ⟨some 26, none, .mov (.slot 29)⟩,
  ⟨some 30, none, .extract 0 (.slot 26)⟩,
  ⟨some 31, none, .extract 1 (.slot 26)⟩,
  ⟨some 8, none, .mov (.slot 30)⟩,
  ⟨some 9, none, .mov (.slot 31)⟩]
def q24R4 : List AOper := [⟨some 32, none, .mov (.slot 9)⟩]
def q24R5 : List AOper := [⟨some 6, none, .mov (.const (.data false 2 [] true))⟩,
  ⟨some 7, none, .mov (.const (.int .i64 260))⟩]
def q24R6 : List AOper := [⟨some 33, none, .mov (.slot 0)⟩,
  ⟨some 34, none, .call .adp n_slices_Clone_Member [(.slot 33)]⟩,
  ⟨some 35, none, .mov (.slot 8)⟩,
  ⟨some 36, none, .mov (.slot 1)⟩,
  ⟨some 37, none, .mov (.slot 2)⟩,
  ⟨some 38, none, .build [.int .i64 0, .int .i64 0] [(0, 1, (.slot 36)), (1, 1, (.slot 37))]⟩,
  ⟨some 39, none, .mkslice 2 1 [.int .i64 0, .int .i64 0] [(0, (.slot 38))]⟩,
  ⟨some 40, none, .call .inl n_slices_Insert_Member [(.slot 34), (.slot 35), (.slot 39)]⟩,
  ⟨some 6, none, .mov (.slot 40)⟩,
  ⟨some 7, none, .mov (.const (.int .i64 0))⟩]
def c_roster_Join : AFn := ⟨(.seq (.region q24R0 false [0, 1, 2]) (.seq (.seq (.region q24R1 false [0, 1, 2, 25]) (.cond (.slot 25) (.seq (.region q24R2 false [6, 7]) .ret) .skip)) (.seq (.region q24R3 false [0, 1, 2, 8, 9]) (.seq (.seq (.region q24R4 false [0, 1, 2, 8, 32]) (.cond (.slot 32) (.seq (.region q24R5 false [6, 7]) .ret) .skip)) (.seq (.region q24R6 false [6, 7]) .ret))))), [.slot 6, .slot 7]⟩
/- bytes.Clone -/
def q0R0 : List AOper := [⟨some 2, none, .mov (.const (.data false 1 [] true))⟩]
def q0R1 : List AOper := [⟨some 3, none, .mov (.slot 0)⟩,
  ⟨some 4, none, .isnil .ks false (.slot 3)⟩]
def q0R2 : List AOper := [⟨some 2, none, .mov (.const (.data false 1 [] true))⟩]
def q0R3 : List AOper := [⟨some 5, none, .mkslice 1 0 [.int .u8 0] []⟩,
  ⟨some 6, none, .mov (.slot 0)⟩,
  ⟨some 7, none, .append 1 1 (.slot 5) (.slot 6)⟩,
  ⟨some 2, none, .mov (.slot 7)⟩]
def c_bytes_Clone : AFn := ⟨(.seq (.region q0R0 false [0]) (.seq (.seq (.region q0R1 false [0, 4]) (.cond (.slot 4) (.seq (.region q0R2 false [2]) .ret) .skip)) (.seq (.region q0R3 false [2]) .ret))), [.slot 2]⟩
/- oriel/merge.copied -/
def q20R0 : List AOper := [⟨some 2, none, .mov (.const (.data false 3 [] true))⟩]
def q20R1 : List AOper := [⟨some 3, none, .mknil 3⟩]
def q20R2 : List AOper := [⟨some 6, none, .mov (.slot 0)⟩,
  ⟨some 7, none, .len false (.slot 6)⟩,
  ⟨some 8, none, .mov (.const (.int .i64 0))⟩]
def q20R3 : List AOper := [⟨some 9, none, .bin .lss (.slot 8) (.slot 7)⟩]
def q20R4 : List AOper := [⟨some 10, none, .idx 3 (.slot 6) (.slot 8)⟩,
  ⟨some 11, none, .load true 3 (.slot 10)⟩,
  ⟨some 5, none, .alloc [.int .i64 0, .int .i64 0, .data false 1 [] true]⟩,
  ⟨none, none, .store true 3 (.slot 5) (.slot 11)⟩]
def q20R5 : List AOper := [⟨some 12, none, .faddr 2 (.slot 5)⟩,
  ⟨some 13, none, .load false 1 (.slot 12)⟩,
  ⟨some 14, none, .call .frz n_bytes_Clone [(.slot 13)]⟩,
  ⟨some 15, none, .faddr 2 (.slot 5)⟩,
  ⟨none, none, .store false 1 (.slot 15) (.slot 14)⟩]
def q20R6 : List AOper := [⟨some 16, none, .mov (.slot 3)⟩,
  ⟨some 17, none, .load true 3 (.slot 5)⟩,
  ⟨some 18, none, .mkslice 3 1 [.int .i64 0, .int .i64 0, .data false 1 [] true] [(0, (.slot 17))]⟩,
  ⟨some 19, none, .append 3 40 (.slot 16) (.slot 18)⟩,
  ⟨some 3, none, .mov (.slot 19)⟩]
def q20R7 : List AOper := [⟨some 20, none, .bin .add (.slot 8) (.const (.int .i64 1))⟩,
  ⟨some 8, none, .mov (.slot 20)⟩]
def c_merge_copied_L0 : ACode := (.seq (.region q20R3 false [3, 6, 7, 8, 9]) (.seq (.cond (.slot 9) .skip (.exit 0)) (.seq (.block 1 (.seq (.region q20R4 false [3, 5, 6, 7, 8]) (.seq (.region q20R5 false [3, 5, 6, 7, 8]) (.region q20R6 false [3, 6, 7, 8])))) (.region q20R7 false [3, 6, 7, 8]))))
def lp_merge_copied_0 : ACode := .loop [3, 6, 7, 8] c_merge_copied_L0
def q20R8 : List AOper := [⟨some 21, none, .mov (.slot 3)⟩,
  ⟨some 2, none, .mov (.slot 21)⟩]
def c_merge_copied : AFn := ⟨(.seq (.region q20R0 false [0]) (.seq (.region q20R1 false [0, 3]) (.seq (.seq (.region q20R2 false [3, 6, 7, 8]) (.block 0 lp_merge_copied_0)) (.seq (.region q20R8 false [2]) .ret)))), [.slot 2]⟩
/- oriel/merge.Pop -/
def q17R0 : List AOper := [⟨some 4, none, .mov (.const (.data false 3 [] true))⟩,
  ⟨some 5, none, .mov (.const (.data false 3 [] true))⟩]
def q17R1 : List AOper := [⟨some 7, none, .mov (.slot 0)⟩,
  ⟨some 8, none, .call .frz n_merge_May [(.slot 7)]⟩,
  ⟨some 9, none, .not (.slot 8)⟩]
def q17R2 : List AOper := [⟨some 4, none, .mov (.const (.data false 3 [] true))⟩,
  ⟨some 5, none, .mov (.const (.data false 3 [] true))⟩]
def q17R3 : List AOper := [⟨some 6, none, .mov (.const (.int .i64 0))⟩]
def q17R4 : List AOper := [⟨some 10, none, .mov (.slot 6)⟩,
  ⟨some 11, none, .mov (.slot 0)⟩,
  ⟨some 12, none, .len false (.slot 11)⟩,
  ⟨some 13, none, .bin .lss (.slot 10) (.slot 12)⟩,
  ⟨some 14, none, .mov (.slot 13)⟩,
  ⟨some 15, some (14, true), .mov (.slot 0)⟩,
  ⟨some 16, some (14, true), .mov (.slot 6)⟩,
  ⟨some 17, some (14, true), .idx 3 (.slot 15) (.slot 16)⟩,
  ⟨some 18, some (14, true), .faddr 2 (.slot 17)⟩,
  ⟨some 19, some (14, true), .load false 1 (.slot 18)⟩,
  ⟨some 20, some (14, true), .len false (.slot 19)⟩,
  ⟨some 21, some (14, true), .mov (.slot 1)⟩,
  ⟨some 22, some (14, true), .bin .leq (.slot 20) (.slot 21)⟩,
  ⟨some 23, none, .pick (.slot 14) (.slot 22) (.const (.bool false))⟩]
def q17R5 : List AOper := [⟨some 24, none, .mov (.slot 1)⟩,
  ⟨some 25, none, .mov (.slot 0)⟩,
  ⟨some 26, none, .mov (.slot 6)⟩,
  ⟨some 27, none, .idx 3 (.slot 25) (.slot 26)⟩,
  ⟨some 28, none, .faddr 2 (.slot 27)⟩,
  ⟨some 29, none, .load false 1 (.slot 28)⟩,
  ⟨some 30, none, .len false (.slot 29)⟩,
  ⟨some 31, none, .bin .sub (.slot 24) (.slot 30)⟩,
  ⟨some 1, none, .mov (.slot 31)⟩]
def q17R6 : List AOper := [⟨some 32, none, .mov (.slot 6)⟩,
  ⟨some 33, none, .bin .add (.slot 32) (.const (.int .i64 1))⟩,
  ⟨some 6, none, .mov (.slot 33)⟩]
def c_merge_Pop_L0 : ACode := (.seq (.seq (.region q17R4 false [0, 1, 6, 23]) (.cond (.slot 23) .skip (.exit 0))) (.block 1 (.seq (.region q17R5 false [0, 1, 6]) (.region q17R6 false [0, 1, 6]))))
def lp_merge_Pop_0 : ACode := .loop [0, 1, 6] c_merge_Pop_L0
def q17R7 : List AOper := [⟨some 34, none, .mov (.slot 0)⟩,
  ⟨some 35, none, .mov (.slot 6)⟩,
  ⟨some 36, none, .mov (.slot 0)⟩,
  ⟨some 37, none, .len false (.slot 36)⟩,
  ⟨some 38, none, .mov (.slot 0)⟩,
  ⟨some 39, none, .len false (.slot 38)⟩,
  ⟨some 40, none, .sl 3 (.slot 34) (some (.slot 35)) (some (.slot 37)) (some (.slot 39))⟩,
  ⟨some 41, none, .call .frz n_merge_copied [(.slot 40)]⟩,
  ⟨some 42, none, .mov (.slot 0)⟩,
  ⟨some 43, none, .mov (.slot 6)⟩,
  ⟨some 44, none, .mov (.slot 6)⟩,
  ⟨some 45, none, .sl 3 (.slot 42) none (some (.slot 43)) (some (.slot 44))⟩,
  ⟨some 46, none, .call .frz n_merge_copied [(.slot 45)]⟩,
  ⟨some 4, none, .mov (.slot 41)⟩,
  ⟨some 5, none, .mov (.slot 46)⟩]
def c_merge_Pop : AFn := ⟨(.seq (.region q17R0 false [0, 1]) (.seq (.seq (.region q17R1 false [0, 1, 9]) (.cond (.slot 9) (.seq (.region q17R2 false [4, 5]) .ret) .skip)) (.seq (.region q17R3 false [0, 1, 6]) (.seq (.block 0 lp_merge_Pop_0) (.seq (.region q17R7 true [4, 5]) .ret))))), [.slot 4, .slot 5]⟩
/- slices.Clone[[]int,int] -/
def q61R0 : List AOper := [⟨some 2, none, .mov (.const (.data false 1 [] true))⟩]
def q61R1 : List AOper := [⟨some 3, none, .mov (.slot 0)⟩,
  ⟨some 4, none, .isnil .ks false (.slot 3)⟩]
def q61R2 : List AOper := [⟨some 2, none, .mov (.const (.data false 1 [] true))⟩]
def q61R3 : List AOper := [⟨some 5, none, .mkslice 1 0 [.int .i64 0] []⟩,
  ⟨some 6, none, .mov (.slot 0)⟩,
  ⟨some 7, none, .append 1 8 (.slot 5) (.slot 6)⟩,
  ⟨some 2, none, .mov (.slot 7)⟩]
def c_slices_Clone_int : AFn := ⟨(.seq (.region q61R0 false [0]) (.seq (.seq (.region q61R1 false [0, 4]) (.cond (.slot 4) (.seq (.region q61R2 false [2]) .ret) .skip)) (.seq (.region q61R3 false [2]) .ret))), [.slot 2]⟩
/- oriel/session.copied -/
def q44R0 : List AOper := [⟨some 1, none, .box 33 (.slot 0)⟩,
  ⟨some 2, none, .alloc (.data false 2 [] true :: .int .i64 0 :: .data false 1 [] true :: .data false 3 [] true :: .int .i64 0 :: .int .i64 0 :: .int .i64 0 :: .int .i64 0 :: .int .i64 0 :: .int .i64 0 :: .int .i64 0 :: .int .i64 0 :: .int .i64 0 :: .int .i64 0 :: .int .i64 0 :: .int .i64 0 :: .int .i64 0 :: .int .i64 0 :: .int .i64 0 :: .int .i64 0 :: .int .i64 0 :: .int .i64 0 :: .int .i64 0 :: .int .i64 0 :: .int .i64 0 :: .int .i64 0 :: .int .i64 0 :: .int .i64 0 :: .int .i64 0 :: .int .i64 0 :: .int .i64 0 :: .int .i64 0 :: .int .i64 0 :: [])⟩]
def q44R1 : List AOper := [⟨some 3, none, .faddr 0 (.slot 1)⟩,
  ⟨some 4, none, .load false 1 (.slot 3)⟩,
  ⟨some 5, none, .call .adp n_slices_Clone_Member [(.slot 4)]⟩,
  ⟨some 6, none, .faddr 1 (.slot 1)⟩,
  ⟨some 7, none, .faddr 1 (.slot 6)⟩,
  ⟨some 8, none, .load false 1 (.slot 7)⟩,
  ⟨some 9, none, .call .adp n_slices_Clone_int [(.slot 8)]⟩,
  ⟨some 10, none, .faddr 0 (.slot 1)⟩,
  ⟨none, none, .store false 1 (.slot 10) (.slot 5)⟩,
  ⟨some 11, none, .faddr 1 (.slot 1)⟩,
  ⟨some 12, none, .faddr 1 (.slot 11)⟩,
  ⟨none, none, .store false 1 (.slot 12) (.slot 9)⟩]
def q44R2 : List AOper := [⟨some 14, none, .faddr 3 (.slot 1)⟩,
  ⟨some 15, none, .load false 1 (.slot 14)⟩,
  ⟨some 16, none, .call .frz n_merge_Pop [(.slot 15), (.const (.int .i64 (-1)))]⟩,
  ⟨some 13, none, .mov (.slot 16)⟩,
  ⟨some 17, none, .extract 0 (.slot 13)⟩,
  ⟨some 18, none, .extract 1 (.slot 13)⟩,
  ⟨some 19, none, .faddr 3 (.slot 1)⟩,
  ⟨none, none, .store false 1 (.slot 19) (.slot 17)⟩]
def q44R3 : List AOper := [⟨some 20, none, .load true 33 (.slot 1)⟩,
  ⟨none, none, .store true 33 (.slot 2) (.slot 20)⟩]
def c_session_copied : AFn := ⟨(.seq (.region q44R0 false [1, 2]) (.seq (.region q44R1 true [1, 2]) (.seq (.region q44R2 false [1, 2]) (.seq (.region q44R3 false [2]) .ret)))), [.cell 2 true 33]⟩
/- slices.DeleteFunc[[]oriel/api.Typed,oriel/api.Typed] -/
def q68R0 : List AOper := [⟨some 4, none, .mov (.const (.data false 3 [] true))⟩]
def q68R1 : List AOper := [⟨some 8, none, .mov (.slot 0)⟩,
  ⟨some 9, none, .mov (.slot 1)⟩,
  ⟨some 10, none, .call .inl n_slices_IndexFunc_Typed [(.slot 8), (.slot 9)]⟩,
  ⟨some 5, none, .mov (.slot 10)⟩]
def q68R2 : List AOper := [⟨some 11, none, .mov (.slot 5)⟩,
  ⟨some 12, none, .bin .eql (.slot 11) (.const (.int .i64 (-1)))⟩]
def q68R3 : List AOper := [⟨some 13, none, .mov (.slot 0)⟩,
  ⟨some 4, none, .mov (.slot 13)⟩]
def q68R4 : List AOper := [⟨some 14, none, .mov (.slot 5)⟩,
  ⟨some 15, none, .bin .add (.slot 14) (.const (.int .i64 1))⟩,
  ⟨some 6, none, .mov (.slot 15)⟩]
def q68R5 : List AOper := [⟨some 16, none, .mov (.slot 6)⟩,
  ⟨some 17, none, .mov (.slot 0)⟩,
  ⟨some 18, none, .len false (.slot 17)⟩,
  ⟨some 19, none, .bin .lss (.slot 16) (.slot 18)⟩]
def q68R7 : List AOper := [⟨some 22, none, .mov (.slot 0)⟩,
  ⟨some 23, none, .mov (.slot 6)⟩,
  ⟨some 24, none, .idx 3 (.slot 22) (.slot 23)⟩,
  ⟨some 25, none, .load true 3 (.slot 24)⟩,
  ⟨some 7, none, .alloc [.int .i64 0, .int .i64 0, .data false 1 [] true]⟩,
  ⟨none, none, .store true 3 (.slot 7) (.slot 25)⟩]
def q68R8 : List AOper := [⟨some 26, none, .mov (.slot 1)⟩,
  ⟨some 27, none, .load true 3 (.slot 7)⟩,
  ⟨some 28, none, .callv (.slot 26) [(.slot 27)]⟩,
  ⟨some 29, none, .not (.slot 28)⟩]
def q68R9 : List AOper := [⟨some 30, none, .mov (.slot 0)⟩,
  ⟨some 31, none, .mov (.slot 5)⟩,
  ⟨some 32, none, .load true 3 (.slot 7)⟩,
  ⟨some 33, none, .idx 3 (.slot 30) (.slot 31)⟩,
  ⟨none, none, .store true 3 (.slot 33) (.slot 32)⟩]
def q68R10 : List AOper := [⟨some 34, none, .mov (.slot 5)⟩,
  ⟨some 35, none, .bin .add (.slot 34) (.const (.int .i64 1))⟩,
  ⟨some 5, none, .mov (.slot 35)⟩]
def q68R6 : List AOper := [⟨some 20, none, .mov (.slot 6)⟩,
  ⟨some 21, none, .bin .add (.slot 20) (.const (.int .i64 1))⟩,
  ⟨some 6, none, .mov (.slot 21)⟩]
def c_slices_DeleteFunc_Typed_L0 : ACode := (.seq (.seq (.region q68R5 false [0, 1, 5, 6, 19]) (.cond (.slot 19) .skip (.exit 0))) (.seq (.block 1 (.seq (.region q68R7 false [0, 1, 5, 6, 7]) (.seq (.region q68R8 false [0, 1, 5, 6, 7, 29]) (.cond (.slot 29) (.seq (.region q68R9 false [0, 1, 5, 6]) (.region q68R10 false [0, 1, 5, 6])) .skip)))) (.region q68R6 false [0, 1, 5, 6])))
def lp_slices_DeleteFunc_Typed_0 : ACode := .loop [0, 1, 5, 6] c_slices_DeleteFunc_Typed_L0
def q68R11 : List AOper := [⟨some 36, none, .mov (.slot 0)⟩,
  ⟨some 37, none, .mov (.slot 5)⟩,
  ⟨some 38, none, .sl 3 (.slot 36) (some (.slot 37)) none none⟩,
  ⟨none, none, .clear [.int .i64 0, .int .i64 0, .data false 1 [] true] (.slot 38)⟩]
def q68R12 : List AOper := [⟨some 39, none, .mov (.slot 0)⟩,
  ⟨some 40, none, .mov (.slot 5)⟩,
  ⟨some 41, none, .sl 3 (.slot 39) none (some (.slot 40)) none⟩,
  ⟨some 4, none, .mov (.slot 41)⟩]
def c_slices_DeleteFunc_Typed : AFn := ⟨(.seq (.region q68R0 false [0, 1]) (.seq (.region q68R1 false [0, 1, 5]) (.seq (.seq (.region q68R2 false [0, 1, 5, 12]) (.cond (.slot 12) (.seq (.region q68R3 false [4]) .ret) .skip)) (.seq (.seq (.region q68R4 false [0, 1, 5, 6]) (.block 0 lp_slices_DeleteFunc_Typed_0)) (.seq (.region q68R11 false [0, 5]) (.seq (.region q68R12 false [4]) .ret)))))), [.slot 4]⟩
/- oriel/merge.Drop'1 -/
def q15R0 : List AOper := [⟨some 2, none, .box 3 (.slot 0)⟩,
  ⟨some 3, none, .mov (.const (.bool false))⟩]
def q15R1 : List AOper := [⟨some 4, none, .faddr 0 (.slot 2)⟩,
  ⟨some 5, none, .load false 1 (.slot 4)⟩,
  ⟨some 6, none, .load false 1 (.slot 1)⟩,
  ⟨some 7, none, .bin .eql (.slot 5) (.slot 6)⟩,
  ⟨some 3, none, .mov (.slot 7)⟩]
def c_merge_Drop_1 : AFn := ⟨(.seq (.region q15R0 false [1, 2]) (.seq (.region q15R1 false [3]) .ret)), [.slot 3]⟩
/- oriel/merge.Drop -/
def q14R0 : List AOper := [⟨some 3, none, .box 1 (.slot 1)⟩,
  ⟨some 4, none, .mov (.const (.data false 3 [] true))⟩]
def q14R1 : List AOper := [⟨some 5, none, .mov (.slot 0)⟩,
  ⟨some 6, none, .call .frz n_merge_May [(.slot 5)]⟩,
  ⟨some 7, none, .not (.slot 6)⟩]
def q14R2 : List AOper := [⟨some 4, none, .mov (.const (.data false 3 [] true))⟩]
def q14R3 : List AOper := [⟨some 8, none, .mov (.slot 0)⟩,
  ⟨some 9, none, .call .adp n_merge_copied [(.slot 8)]⟩,
  ⟨some 10, none, .mkfn (.func n_merge_Drop_1) [] [(.slot 3)]⟩,
  ⟨some 11, none, .call .inl n_slices_DeleteFunc_Typed [(.slot 9), (.slot 10)]⟩,
  ⟨some 4, none, .mov (.slot 11)⟩]
def c_merge_Drop : AFn := ⟨(.seq (.region q14R0 false [0, 3]) (.seq (.seq (.region q14R1 false [0, 3, 7]) (.cond (.slot 7) (.seq (.region q14R2 false [4]) .ret) .skip)) (.seq (.region q14R3 false [4]) .ret))), [.slot 4]⟩
/- (*oriel/token.arbiter).on -/
def q91R0 : List AOper := [⟨some 2, none, .mov (.slot 0)⟩,
  ⟨some 3, none, .nilchk (.slot 2)⟩,
  ⟨some 4, none, .faddr 0 (.slot 3)⟩,
  ⟨some 5, none, .faddr 0 (.slot 4)⟩,
  ⟨none, none, .store false 1 (.slot 5) (.const (.int .i64 0))⟩]
def q91R1 : List AOper := [⟨some 6, none, .mov (.slot 0)⟩,
  ⟨some 7, none, .nilchk (.slot 6)⟩,
  ⟨some 8, none, .faddr 0 (.slot 7)⟩,
  ⟨some 9, none, .faddr 1 (.slot 8)⟩,
  ⟨some 10, none, .load false 1 (.slot 9)⟩,
  ⟨some 11, none, .len false (.slot 10)⟩,
  ⟨some 12, none, .bin .gtr (.slot 11) (.const (.int .i64 0))⟩]
def q91R2 : List AOper := [⟨some 13, none, .mov (.slot 0)⟩,
  ⟨some 14, none, .mov (.slot 0)⟩,
  ⟨some 15, none, .mov (.slot 0)⟩,
  ⟨some 16, none, .nilchk (.slot 15)⟩,
  ⟨some 17, none, .faddr 0 (.slot 16)⟩,
  ⟨some 18, none, .faddr 1 (.slot 17)⟩,
  ⟨some 19, none, .load false 1 (.slot 18)⟩,
  ⟨some 20, none, .idx 1 (.slot 19) (.const (.int .i64 0))⟩,
  ⟨some 21, none, .load false 1 (.slot 20)⟩,
  ⟨some 22, none, .mov (.slot 0)⟩,
  ⟨some 23, none, .nilchk (.slot 22)⟩,
  ⟨some 24, none, .faddr 0 (.slot 23)⟩,
  ⟨some 25, none, .faddr 1 (.slot 24)⟩,
  ⟨some 26, none, .load false 1 (.slot 25)⟩,
  ⟨some 27, none, .sl 1 (.slot 26) (some (.const (.int .i64 1))) none none⟩,
  ⟨some 28, none, .nilchk (.slot 13)⟩,
  ⟨some 29, none, .faddr 0 (.slot 28)⟩,
  ⟨some 30, none, .faddr 0 (.slot 29)⟩,
  ⟨none, none, .store false 1 (.slot 30) (.slot 21)⟩,
  ⟨some 31, none, .nilchk (.slot 14)⟩,
  ⟨some 32, none, .faddr 0 (.slot 31)⟩,
  ⟨some 33, none, .faddr 1 (.slot 32)⟩,
  ⟨none, none, .store false 1 (.slot 33) (.slot 27)⟩]
def c_token_arbiter_on : AFn := ⟨(.seq (.region q91R0 false [0]) (.seq (.region q91R1 false [0, 12]) (.cond (.slot 12) (.region q91R2 true []) .skip))), []⟩
/- oriel/token.change -/
def q92R0 : List AOper := [⟨some 2, none, .box 2 (.slot 0)⟩,
  ⟨some 4, none, .alloc [.int .i64 0, .data false 1 [] true]⟩]
def q92R1 : List AOper := [⟨some 6, none, .faddr 0 (.slot 2)⟩,
  ⟨some 7, none, .load false 1 (.slot 6)⟩,
  ⟨some 8, none, .faddr 1 (.slot 2)⟩,
  ⟨some 9, none, .load false 1 (.slot 8)⟩,
  ⟨some 10, none, .call .adp n_slices_Clone_int [(.slot 9)]⟩,
  ⟨some 11, none, .build [.int .i64 0, .data false 1 [] true] [(0, 1, (.slot 7)), (1, 1, (.slot 10))]⟩,
  ⟨some 12, none, .build [.int .i64 0, .data false 1 [] true] [(0, 2, (.slot 11))]⟩,
  ⟨some 13, none, .box 2 (.slot 12)⟩,
  ⟨some 5, none, .mov (.slot 13)⟩]
def q92R2 : List AOper := [⟨some 14, none, .mov (.slot 1)⟩,
  ⟨some 15, none, .mov (.slot 5)⟩,
  ⟨some 16, none, .mov (.slot 5)⟩,
  ⟨some 17, none, .mkfn (.func n_token_arbiter_on) [(.slot 16)] []⟩,
  ⟨some 18, none, .callv (.slot 14) [(.slot 15), (.slot 17)]⟩]
def q92R3 : List AOper := [⟨some 19, none, .mov (.slot 5)⟩,
  ⟨some 20, none, .nilchk (.slot 19)⟩,
  ⟨some 21, none, .faddr 0 (.slot 20)⟩,
  ⟨some 22, none, .load true 2 (.slot 21)⟩,
  ⟨none, none, .store true 2 (.slot 4) (.slot 22)⟩]
def c_token_change : AFn := ⟨(.seq (.region q92R0 false [1, 2, 4]) (.seq (.region q92R1 true [1, 4, 5]) (.seq (.region q92R2 false [4, 5]) (.seq (.region q92R3 false [4]) .ret)))), [.cell 4 true 2]⟩
/- slices.Index[[]int,int] -/
def q78R0 : List AOper := [⟨some 4, none, .mov (.const (.int .i64 0))⟩]
def q78R1 : List AOper := [⟨some 6, none, .mov (.slot 0)⟩,
  ⟨some 7, none, .len false (.slot 6)⟩,
  ⟨some 8, none, .mov (.const (.int .i64 0))⟩]
def q78R2 : List AOper := [⟨some 9, none, .bin .lss (.slot 8) (.slot 7)⟩]
def q78R3 : List AOper := [⟨some 10, none, .mov (.slot 8)⟩,
  ⟨some 5, none, .mov (.slot 10)⟩]
def q78R4 : List AOper := [⟨some 11, none, .mov (.slot 1)⟩,
  ⟨some 12, none, .mov (.slot 0)⟩,
  ⟨some 13, none, .mov (.slot 5)⟩,
  ⟨some 14, none, .idx 1 (.slot 12) (.slot 13)⟩,
  ⟨some 15, none, .load false 1 (.slot 14)⟩,
  ⟨some 16, none, .bin .eql (.slot 11) (.slot 15)⟩]
def q78R5 : List AOper := [⟨some 17, none, .mov (.slot 5)⟩,
  ⟨some 4, none, .mov (.slot 17)⟩]
def q78R6 : List AOper := [⟨some 18, none, .bin .add (.slot 8) (.const (.int .i64 1))⟩,
  ⟨some 8, none, .mov (.slot 18)⟩]
def c_slices_Index_int_L0 : ACode := (.seq (.region q78R2 false [0, 1, 7, 8, 9]) (.seq (.cond (.slot 9) .skip (.exit 0)) (.seq (.block 1 (.seq (.region q78R3 false [0, 1, 5, 7, 8]) (.seq (.region q78R4 false [0, 1, 5, 7, 8, 16]) (.cond (.slot 16) (.seq (.region q78R5 false [4]) .ret) .skip)))) (.region q78R6 false [0, 1, 7, 8]))))
def lp_slices_Index_int_0 : ACode := .loop [0, 1, 7, 8] c_slices_Index_int_L0
def q78R7 : List AOper := [⟨some 4, none, .mov (.const (.int .i64 (-1)))⟩]
def c_slices_Index_int : AFn := ⟨(.seq (.region q78R0 false [0, 1]) (.seq (.seq (.region q78R1 false [0, 1, 7, 8]) (.block 0 lp_slices_Index_int_0)) (.seq (.region q78R7 false [4]) .ret))), [.slot 4]⟩
/- slices.Contains[[]int,int] -/
def q66R0 : List AOper := [⟨some 4, none, .mov (.const (.bool false))⟩]
def q66R1 : List AOper := [⟨some 5, none, .mov (.slot 0)⟩,
  ⟨some 6, none, .mov (.slot 1)⟩,
  ⟨some 7, none, .call .frz n_slices_Index_int [(.slot 5), (.slot 6)]⟩,
  ⟨some 8, none, .bin .geq (.slot 7) (.const (.int .i64 0))⟩,
  ⟨some 4, none, .mov (.slot 8)⟩]
def c_slices_Contains_int : AFn := ⟨(.seq (.region q66R0 false [0, 1]) (.seq (.region q66R1 false [4]) .ret)), [.slot 4]⟩
/- oriel/token.Keep'1 -/
def q87R0 : List AOper := [⟨some 3, none, .mov (.const (.bool false))⟩]
def q87R1 : List AOper := [⟨some 4, none, .load false 1 (.slot 1)⟩,
  ⟨some 5, none, .mov (.slot 0)⟩,
  ⟨some 6, none, .call .frz n_slices_Contains_int [(.slot 4), (.slot 5)]⟩,
  ⟨some 7, none, .not (.slot 6)⟩,
  ⟨some 3, none, .mov (.slot 7)⟩]
def c_token_Keep_1 : AFn := ⟨(.seq (.region q87R0 false [0, 1]) (.seq (.region q87R1 false [3]) .ret)), [.slot 3]⟩
/- slices.DeleteFunc[[]int,int] -/
def q69R0 : List AOper := [⟨some 4, none, .mov (.const (.data false 1 [] true))⟩]
def q69R1 : List AOper := [⟨some 8, none, .mov (.slot 0)⟩,
  ⟨some 9, none, .mov (.slot 1)⟩,
  ⟨some 10, none, .call .inl n_slices_IndexFunc_int [(.slot 8), (.slot 9)]⟩,
  ⟨some 5, none, .mov (.slot 10)⟩]
def q69R2 : List AOper := [⟨some 11, none, .mov (.slot 5)⟩,
  ⟨some 12, none, .bin .eql (.slot 11) (.const (.int .i64 (-1)))⟩]
def q69R3 : List AOper := [⟨some 13, none, .mov (.slot 0)⟩,
  ⟨some 4, none, .mov (.slot 13)⟩]
def q69R4 : List AOper := [⟨some 14, none, .mov (.slot 5)⟩,
  ⟨some 15, none, .bin .add (.slot 14) (.const (.int .i64 1))⟩,
  ⟨some 6, none, .mov (.slot 15)⟩]
def q69R5 : List AOper := [⟨some 16, none, .mov (.slot 6)⟩,
  ⟨some 17, none, .mov (.slot 0)⟩,
  ⟨some 18, none, .len false (.slot 17)⟩,
  ⟨some 19, none, .bin .lss (.slot 16) (.slot 18)⟩]
def q69R7 : List AOper := [⟨some 22, none, .mov (.slot 0)⟩,
  ⟨some 23, none, .mov (.slot 6)⟩,
  ⟨some 24, none, .idx 1 (.slot 22) (.slot 23)⟩,
  ⟨some 25, none, .load false 1 (.slot 24)⟩,
  ⟨some 7, none, .mov (.slot 25)⟩]
def q69R8 : List AOper := [⟨some 26, none, .mov (.slot 1)⟩,
  ⟨some 27, none, .mov (.slot 7)⟩,
  ⟨some 28, none, .callv (.slot 26) [(.slot 27)]⟩,
  ⟨some 29, none, .not (.slot 28)⟩]
def q69R9 : List AOper := [⟨some 30, none, .mov (.slot 0)⟩,
  ⟨some 31, none, .mov (.slot 5)⟩,
  ⟨some 32, none, .mov (.slot 7)⟩,
  ⟨some 33, none, .idx 1 (.slot 30) (.slot 31)⟩,
  ⟨none, none, .store false 1 (.slot 33) (.slot 32)⟩]
def q69R10 : List AOper := [⟨some 34, none, .mov (.slot 5)⟩,
  ⟨some 35, none, .bin .add (.slot 34) (.const (.int .i64 1))⟩,
  ⟨some 5, none, .mov (.slot 35)⟩]
def q69R6 : List AOper := [⟨some 20, none, .mov (.slot 6)⟩,
  ⟨some 21, none, .bin .add (.slot 20) (.const (.int .i64 1))⟩,
  ⟨some 6, none, .mov (.slot 21)⟩]
def c_slices_DeleteFunc_int_L0 : ACode := (.seq (.seq (.region q69R5 false [0, 1, 5, 6, 19]) (.cond (.slot 19) .skip (.exit 0))) (.seq (.block 1 (.seq (.region q69R7 false [0, 1, 5, 6, 7]) (.seq (.region q69R8 false [0, 1, 5, 6, 7, 29]) (.cond (.slot 29) (.seq (.region q69R9 false [0, 1, 5, 6]) (.region q69R10 false [0, 1, 5, 6])) .skip)))) (.region q69R6 false [0, 1, 5, 6])))
def lp_slices_DeleteFunc_int_0 : ACode := .loop [0, 1, 5, 6] c_slices_DeleteFunc_int_L0
def q69R11 : List AOper := [⟨some 36, none, .mov (.slot 0)⟩,
  ⟨some 37, none, .mov (.slot 5)⟩,
  ⟨some 38, none, .sl 1 (.slot 36) (some (.slot 37)) none none⟩,
  ⟨none, none, .clear [.int .i64 0] (.slot 38)⟩]
def q69R12 : List AOper := [⟨some 39, none, .mov (.slot 0)⟩,
  ⟨some 40, none, .mov (.slot 5)⟩,
  ⟨some 41, none, .sl 1 (.slot 39) none (some (.slot 40)) none⟩,
  ⟨some 4, none, .mov (.slot 41)⟩]
def c_slices_DeleteFunc_int : AFn := ⟨(.seq (.region q69R0 false [0, 1]) (.seq (.region q69R1 false [0, 1, 5]) (.seq (.seq (.region q69R2 false [0, 1, 5, 12]) (.cond (.slot 12) (.seq (.region q69R3 false [4]) .ret) .skip)) (.seq (.seq (.region q69R4 false [0, 1, 5, 6]) (.block 0 lp_slices_DeleteFunc_int_0)) (.seq (.region q69R11 false [0, 5]) (.seq (.region q69R12 false [4]) .ret)))))), [.slot 4]⟩
/- oriel/token.Keep'2 -/
def q88R0 : List AOper := [⟨some 5, none, .mov (.slot 0)⟩,
  ⟨some 6, none, .mov (.slot 0)⟩,
  ⟨some 7, none, .nilchk (.slot 6)⟩,
  ⟨some 8, none, .faddr 0 (.slot 7)⟩,
  ⟨some 9, none, .faddr 1 (.slot 8)⟩,
  ⟨some 10, none, .load false 1 (.slot 9)⟩,
  ⟨some 11, none, .load false 1 (.slot 2)⟩,
  ⟨some 12, none, .call .inl n_slices_DeleteFunc_int [(.slot 10), (.slot 11)]⟩,
  ⟨some 13, none, .nilchk (.slot 5)⟩,
  ⟨some 14, none, .faddr 0 (.slot 13)⟩,
  ⟨some 15, none, .faddr 1 (.slot 14)⟩,
  ⟨none, none, .store false 1 (.slot 15) (.slot 12)⟩]
def q88R1 : List AOper := [⟨some 16, none, .mov (.slot 0)⟩,
  ⟨some 17, none, .nilchk (.slot 16)⟩,
  ⟨some 18, none, .faddr 0 (.slot 17)⟩,
  ⟨some 19, none, .faddr 0 (.slot 18)⟩,
  ⟨some 20, none, .load false 1 (.slot 19)⟩,
  ⟨some 21, none, .bin .neq (.slot 20) (.const (.int .i64 0))⟩,
  ⟨some 22, none, .mov (.slot 21)⟩,
  ⟨some 23, some (22, true), .load false 1 (.slot 2)⟩,
  ⟨some 24, some (22, true), .mov (.slot 0)⟩,
  ⟨some 25, some (22, true), .nilchk (.slot 24)⟩,
  ⟨some 26, some (22, true), .faddr 0 (.slot 25)⟩,
  ⟨some 27, some (22, true), .faddr 0 (.slot 26)⟩,
  ⟨some 28, some (22, true), .load false 1 (.slot 27)⟩,
  ⟨some 29, some (22, true), .callv (.slot 23) [(.slot 28)]⟩,
  ⟨some 30, none, .pick (.slot 22) (.slot 29) (.const (.bool false))⟩]
def q88R2 : List AOper := [⟨some 31, none, .mov (.slot 1)⟩,
  ⟨some 32, none, .callv (.slot 31) []⟩]
def c_token_Keep_2 : AFn := ⟨(.seq (.region q88R0 true [0, 1, 2]) (.seq (.region q88R1 true [1, 30]) (.cond (.slot 30) (.region q88R2 false []) .skip))), []⟩
/- oriel/token.Keep -/
def q86R0 : List AOper := [⟨some 2, none, .box 2 (.slot 0)⟩,
  ⟨some 3, none, .box 1 (.slot 1)⟩,
  ⟨some 4, none, .alloc [.int .i64 0, .data false 1 [] true]⟩,
  ⟨some 5, none, .mov (.const (.int .i64 0))⟩]
def q86R1 : List AOper := [⟨some 7, none, .load true 2 (.slot 2)⟩,
  ⟨some 8, none, .call .frz n_token_May [(.slot 7)]⟩,
  ⟨some 9, none, .not (.slot 8)⟩]
def q86R2 : List AOper := [⟨some 10, none, .build [.int .i64 0, .data false 1 [] true] []⟩,
  ⟨none, none, .store true 2 (.slot 4) (.slot 10)⟩,
  ⟨some 5, none, .mov (.const (.int .i64 2))⟩]
def q86R3 : List AOper := [⟨some 11, none, .mkfn (.func n_token_Keep_1) [] [(.slot 3)]⟩,
  ⟨some 6, none, .alloc [.nilfn]⟩,
  ⟨none, none, .store false 1 (.slot 6) (.slot 11)⟩]
def q86R4 : List AOper := [⟨some 12, none, .load true 2 (.slot 2)⟩,
  ⟨some 13, none, .mkfn (.func n_token_Keep_2) [] [(.slot 6)]⟩,
  ⟨some 14, none, .call .inl n_token_change [(.slot 12), (.slot 13)]⟩,
  ⟨none, none, .store true 2 (.slot 4) (.slot 14)⟩,
  ⟨some 5, none, .mov (.const (.int .i64 0))⟩]
def c_token_Keep : AFn := ⟨(.seq (.region q86R0 false [2, 3, 4]) (.seq (.seq (.region q86R1 false [2, 3, 4, 9]) (.cond (.slot 9) (.seq (.region q86R2 false [4, 5]) .ret) .skip)) (.seq (.region q86R3 false [2, 4, 6]) (.seq (.region q86R4 false [4, 5]) .ret)))), [.cell 4 true 2, .slot 5]⟩
/- oriel/roster.Writers -/
def q29R0 : List AOper := [⟨some 2, none, .mov (.const (.data false 1 [] true))⟩]
def q29R1 : List AOper := [⟨some 6, none, .mov (.slot 0)⟩,
  ⟨some 7, none, .call .frz n_roster_May [(.slot 6)]⟩,
  ⟨some 8, none, .not (.slot 7)⟩]
def q29R2 : List AOper := [⟨some 2, none, .mov (.const (.data false 1 [] true))⟩]
def q29R3 : List AOper := [⟨some 3, none, .mknil 1⟩]
def q29R4 : List AOper := [⟨some 9, none, .mov (.slot 0)⟩,
  ⟨some 10, none, .len false (.slot 9)⟩,
  ⟨some 11, none, .mov (.const (.int .i64 0))⟩]
def q29R5 : List AOper := [⟨some 12, none, .bin .lss (.slot 11) (.slot 10)⟩]
def q29R6 : List AOper := [⟨some 13, none, .idx 2 (.slot 9) (.slot 11)⟩,
  ⟨some 14, none, .load true 2 (.slot 13)⟩,
  ⟨some 5, none, .alloc [.int .i64 0, .int .i64 0]⟩,
  ⟨none, none, .store true 2 (.slot 5) (.slot 14)⟩]
def q29R7 : List AOper := [⟨some 15, none, .faddr 1 (.slot 5)⟩,
  ⟨some 16, none, .load false 1 (.slot 15)⟩,
  ⟨some 17, none, .bin .eql (.slot 16) (.const (.int .i64 2))⟩]
def q29R8 : List AOper := [⟨some 18, none, .mov (.slot 3)⟩,
  ⟨some 19, none, .faddr 0 (.slot 5)⟩,
  ⟨some 20, none, .load false 1 (.slot 19)⟩,
  ⟨some 21, none, .mkslice 1 1 [.int .i64 0] [(0, (.slot 20))]⟩,
  ⟨some 22, none, .append 1 8 (.slot 18) (.slot 21)⟩,
  ⟨some 3, none, .mov (.slot 22)⟩]
def q29R9 : List AOper := [⟨some 23, none, .bin .add (.slot 11) (.const (.int .i64 1))⟩,
  ⟨some 11, none, .mov (.slot 23)⟩]
def c_roster_Writers_L0 : ACode := (.seq (.region q29R5 false [3, 9, 10, 11, 12]) (.seq (.cond (.slot 12) .skip (.exit 0)) (.seq (.block 1 (.seq (.region q29R6 false [3, 5, 9, 10, 11]) (.seq (.region q29R7 false [3, 5, 9, 10, 11, 17]) (.cond (.slot 17) (.region q29R8 false [3, 9, 10, 11]) .skip)))) (.region q29R9 false [3, 9, 10, 11]))))
def lp_roster_Writers_0 : ACode := .loop [3, 9, 10, 11] c_roster_Writers_L0
def q29R10 : List AOper := [⟨some 24, none, .mov (.slot 3)⟩,
  ⟨some 2, none, .mov (.slot 24)⟩]
def c_roster_Writers : AFn := ⟨(.seq (.region q29R0 false [0]) (.seq (.seq (.region q29R1 false [0, 8]) (.cond (.slot 8) (.seq (.region q29R2 false [2]) .ret) .skip)) (.seq (.region q29R3 false [0, 3]) (.seq (.seq (.region q29R4 false [3, 9, 10, 11]) (.block 0 lp_roster_Writers_0)) (.seq (.region q29R10 false [2]) .ret))))), [.slot 2]⟩
/- oriel/size.member -/
def q56R0 : List AOper := [⟨some 2, none, .mov (.const (.bool false))⟩]
def q56R1 : List AOper := [⟨some 3, none, .mov (.slot 0)⟩,
  ⟨some 4, none, .bin .geq (.slot 3) (.const (.int .i64 1))⟩,
  ⟨some 5, none, .mov (.slot 4)⟩,
  ⟨some 6, some (5, true), .mov (.slot 0)⟩,
  ⟨some 7, some (5, true), .bin .leq (.slot 6) (.const (.int .i64 8))⟩,
  ⟨some 8, none, .pick (.slot 5) (.slot 7) (.const (.bool false))⟩,
  ⟨some 2, none, .mov (.slot 8)⟩]
def c_size_member : AFn := ⟨(.seq (.region q56R0 false [0]) (.seq (.region q56R1 false [2]) .ret)), [.slot 2]⟩
/- oriel/size.Least -/
def q53R0 : List AOper := [⟨some 3, none, .box 18 (.slot 0)⟩,
  ⟨some 5, none, .box 2 (.slot 2)⟩,
  ⟨some 6, none, .alloc [.int .i64 0, .int .i64 0]⟩]
def q53R1 : List AOper := [⟨some 12, none, .load true 18 (.slot 3)⟩,
  ⟨some 13, none, .call .frz n_size_May [(.slot 12)]⟩,
  ⟨some 14, none, .not (.slot 13)⟩]
def q53R2 : List AOper := [⟨some 15, none, .load true 2 (.slot 5)⟩,
  ⟨none, none, .store true 2 (.slot 6) (.slot 15)⟩]
def q53R3 : List AOper := [⟨some 16, none, .build [.int .i64 0, .int .i64 0] [(0, 1, (.const (.int .i64 24))), (1, 1, (.const (.int .i64 40)))]⟩,
  ⟨some 7, none, .alloc [.int .i64 0, .int .i64 0]⟩,
  ⟨none, none, .store true 2 (.slot 7) (.slot 16)⟩,
  ⟨some 8, none, .mov (.const (.bool false))⟩]
def q53R4 : List AOper := [⟨some 17, none, .mov (.slot 1)⟩,
  ⟨some 18, none, .len false (.slot 17)⟩,
  ⟨some 19, none, .mov (.const (.int .i64 0))⟩]
def q53R5 : List AOper := [⟨some 20, none, .bin .lss (.slot 19) (.slot 18)⟩]
def q53R6 : List AOper := [⟨some 21, none, .idx 1 (.slot 17) (.slot 19)⟩,
  ⟨some 22, none, .load false 1 (.slot 21)⟩,
  ⟨some 10, none, .mov (.slot 22)⟩]
def q53R7 : List AOper := [⟨some 23, none, .mov (.slot 10)⟩,
  ⟨some 24, none, .call .frz n_size_member [(.slot 23)]⟩,
  ⟨some 25, none, .not (.slot 24)⟩,
  ⟨some 26, none, .mov (.slot 25)⟩,
  ⟨some 27, some (26, false), .mov (.slot 10)⟩,
  ⟨some 28, some (26, false), .idxarr 2 9 (.slot 3) (.slot 27)⟩,
  ⟨some 29, some (26, false), .load true 2 (.slot 28)⟩,
  ⟨some 30, some (26, false), .build [.int .i64 0, .int .i64 0] []⟩,
  ⟨some 31, some (26, false), .eq true [.ki, .ki] false (.slot 29) (.slot 30)⟩,
  ⟨some 32, none, .pick (.slot 26) (.const (.bool true)) (.slot 31)⟩]
def q53R8 : List AOper := [⟨some 8, none, .mov (.const (.bool true))⟩]
def q53R9 : List AOper := [⟨some 33, none, .mov (.const (.int .i64 0))⟩]
def q53R10 : List AOper := [⟨some 34, none, .bin .lss (.slot 33) (.const (.int .i64 2))⟩]
def q53R11 : List AOper := [⟨some 35, none, .mov (.slot 33)⟩,
  ⟨some 11, none, .mov (.slot 35)⟩]
def q53R12 : List AOper := [⟨some 36, none, .mov (.slot 11)⟩,
  ⟨some 37, none, .mov (.slot 11)⟩,
  ⟨some 38, none, .idxarr 1 2 (.slot 7) (.slot 37)⟩,
  ⟨some 39, none, .load false 1 (.slot 38)⟩,
  ⟨some 40, none, .mov (.slot 10)⟩,
  ⟨some 41, none, .mov (.slot 11)⟩,
  ⟨some 42, none, .idxarr 2 9 (.slot 3) (.slot 40)⟩,
  ⟨some 43, none, .idxarr 1 2 (.slot 42) (.slot 41)⟩,
  ⟨some 44, none, .load false 1 (.slot 43)⟩,
  ⟨some 45, none, .min (.slot 39) (.slot 44)⟩,
  ⟨some 46, none, .idxarr 1 2 (.slot 7) (.slot 36)⟩,
  ⟨none, none, .store false 1 (.slot 46) (.slot 45)⟩]
def q53R13 : List AOper := [⟨some 47, none, .bin .add (.slot 33) (.const (.int .i64 1))⟩,
  ⟨some 33, none, .mov (.slot 47)⟩]
def c_size_Least_L1 : ACode := (.seq (.region q53R10 false [3, 5, 6, 7, 8, 10, 17, 18, 19, 33, 34]) (.seq (.cond (.slot 34) .skip (.exit 2)) (.seq (.block 3 (.seq (.region q53R11 false [3, 5, 6, 7, 8, 10, 11, 17, 18, 19, 33]) (.region q53R12 true [3, 5, 6, 7, 8, 10, 17, 18, 19, 33]))) (.region q53R13 false [3, 5, 6, 7, 8, 10, 17, 18, 19, 33]))))
def lp_size_Least_1 : ACode := .loop [3, 5, 6, 7, 8, 10, 17, 18, 19, 33] c_size_Least_L1
def q53R14 : List AOper := [⟨some 48, none, .bin .add (.slot 19) (.const (.int .i64 1))⟩,
  ⟨some 19, none, .mov (.slot 48)⟩]
def c_size_Least_L0 : ACode := (.seq (.region q53R5 false [3, 5, 6, 7, 8, 17, 18, 19, 20]) (.seq (.cond (.slot 20) .skip (.exit 0)) (.seq (.block 1 (.seq (.region q53R6 false [3, 5, 6, 7, 8, 10, 17, 18, 19]) (.seq (.seq (.region q53R7 false [3, 5, 6, 7, 8, 10, 17, 18, 19, 32]) (.cond (.slot 32) (.exit 1) .skip)) (.seq (.region q53R8 false [3, 5, 6, 7, 8, 10, 17, 18, 19]) (.seq (.region q53R9 false [3, 5, 6, 7, 8, 10, 17, 18, 19, 33]) (.block 2 lp_size_Least_1)))))) (.region q53R14 false [3, 5, 6, 7, 8, 17, 18, 19]))))
def lp_size_Least_0 : ACode := .loop [3, 5, 6, 7, 8, 17, 18, 19] c_size_Least_L0
def q53R15 : List AOper := [⟨some 49, none, .mov (.slot 8)⟩,
  ⟨some 50, none, .not (.slot 49)⟩]
def q53R16 : List AOper := [⟨some 51, none, .load true 2 (.slot 5)⟩,
  ⟨none, none, .store true 2 (.slot 6) (.slot 51)⟩]
def q53R17 : List AOper := [⟨some 52, none, .load true 2 (.slot 7)⟩,
  ⟨none, none, .store true 2 (.slot 6) (.slot 52)⟩]
def c_size_Least : AFn := ⟨(.seq (.region q53R0 false [1, 3, 5, 6]) (.seq (.seq (.region q53R1 false [1, 3, 5, 6, 14]) (.cond (.slot 14) (.seq (.region q53R2 false [6]) .ret) .skip)) (.seq (.region q53R3 false [1, 3, 5, 6, 7, 8]) (.seq (.seq (.region q53R4 false [3, 5, 6, 7, 8, 17, 18, 19]) (.block 0 lp_size_Least_0)) (.seq (.seq (.region q53R15 false [5, 6, 7, 50]) (.cond (.slot 50) (.seq (.region q53R16 false [6]) .ret) .skip)) (.seq (.region q53R17 false [6]) .ret)))))), [.cell 6 true 2]⟩
/- oriel/session.settled -/
def q50R0 : List AOper := [⟨some 1, none, .box 33 (.slot 0)⟩,
  ⟨some 2, none, .alloc (.data false 2 [] true :: .int .i64 0 :: .data false 1 [] true :: .data false 3 [] true :: .int .i64 0 :: .int .i64 0 :: .int .i64 0 :: .int .i64 0 :: .int .i64 0 :: .int .i64 0 :: .int .i64 0 :: .int .i64 0 :: .int .i64 0 :: .int .i64 0 :: .int .i64 0 :: .int .i64 0 :: .int .i64 0 :: .int .i64 0 :: .int .i64 0 :: .int .i64 0 :: .int .i64 0 :: .int .i64 0 :: .int .i64 0 :: .int .i64 0 :: .int .i64 0 :: .int .i64 0 :: .int .i64 0 :: .int .i64 0 :: .int .i64 0 :: .int .i64 0 :: .int .i64 0 :: .int .i64 0 :: .int .i64 0 :: [])⟩]
def q50R1 : List AOper := [⟨some 8, none, .faddr 1 (.slot 1)⟩,
  ⟨some 9, none, .load true 2 (.slot 8)⟩,
  ⟨some 10, none, .faddr 0 (.slot 1)⟩,
  ⟨some 11, none, .load false 1 (.slot 10)⟩,
  ⟨some 12, none, .call .frz n_roster_Writers [(.slot 11)]⟩,
  ⟨some 13, none, .call .frz n_token_Keep [(.slot 9), (.slot 12)]⟩,
  ⟨some 7, none, .mov (.slot 13)⟩,
  ⟨some 14, none, .extract 0 (.slot 7)⟩,
  ⟨some 15, none, .extract 1 (.slot 7)⟩,
  ⟨some 16, none, .faddr 1 (.slot 1)⟩,
  ⟨none, none, .store true 2 (.slot 16) (.slot 14)⟩]
def q50R2 : List AOper := [⟨some 3, none, .mknil 1⟩]
def q50R3 : List AOper := [⟨some 17, none, .faddr 0 (.slot 1)⟩,
  ⟨some 18, none, .load false 1 (.slot 17)⟩,
  ⟨some 19, none, .len false (.slot 18)⟩,
  ⟨some 20, none, .mov (.const (.int .i64 0))⟩]
def q50R4 : List AOper := [⟨some 21, none, .bin .lss (.slot 20) (.slot 19)⟩]
def q50R5 : List AOper := [⟨some 22, none, .idx 2 (.slot 18) (.slot 20)⟩,
  ⟨some 23, none, .load true 2 (.slot 22)⟩,
  ⟨some 5, none, .alloc [.int .i64 0, .int .i64 0]⟩,
  ⟨none, none, .store true 2 (.slot 5) (.slot 23)⟩]
def q50R6 : List AOper := [⟨some 24, none, .mov (.slot 3)⟩,
  ⟨some 25, none, .faddr 0 (.slot 5)⟩,
  ⟨some 26, none, .load false 1 (.slot 25)⟩,
  ⟨some 27, none, .mkslice 1 1 [.int .i64 0] [(0, (.slot 26))]⟩,
  ⟨some 28, none, .append 1 8 (.slot 24) (.slot 27)⟩,
  ⟨some 3, none, .mov (.slot 28)⟩]
def q50R7 : List AOper := [⟨some 29, none, .bin .add (.slot 20) (.const (.int .i64 1))⟩,
  ⟨some 20, none, .mov (.slot 29)⟩]
def c_session_settled_L0 : ACode := (.seq (.region q50R4 false [1, 2, 3, 18, 19, 20, 21]) (.seq (.cond (.slot 21) .skip (.exit 0)) (.seq (.block 1 (.seq (.region q50R5 false [1, 2, 3, 5, 18, 19, 20]) (.region q50R6 false [1, 2, 3, 18, 19, 20]))) (.region q50R7 false [1, 2, 3, 18, 19, 20]))))
def lp_session_settled_0 : ACode := .loop [1, 2, 3, 18, 19, 20] c_session_settled_L0
def q50R8 : List AOper := [⟨some 30, none, .faddr 4 (.slot 1)⟩,
  ⟨some 31, none, .load true 18 (.slot 30)⟩,
  ⟨some 32, none, .mov (.slot 3)⟩,
  ⟨some 33, none, .faddr 22 (.slot 1)⟩,
  ⟨some 34, none, .load false 1 (.slot 33)⟩,
  ⟨some 35, none, .faddr 23 (.slot 1)⟩,
  ⟨some 36, none, .load false 1 (.slot 35)⟩,
  ⟨some 37, none, .build [.int .i64 0, .int .i64 0] [(0, 1, (.slot 34)), (1, 1, (.slot 36))]⟩,
  ⟨some 38, none, .call .frz n_size_Least [(.slot 31), (.slot 32), (.slot 37)]⟩,
  ⟨some 6, none, .alloc [.int .i64 0, .int .i64 0]⟩,
  ⟨none, none, .store true 2 (.slot 6) (.slot 38)⟩]
def q50R9 : List AOper := [⟨some 39, none, .idxarr 1 2 (.slot 6) (.const (.int .i64 0))⟩,
  ⟨some 40, none, .load false 1 (.slot 39)⟩,
  ⟨some 41, none, .idxarr 1 2 (.slot 6) (.const (.int .i64 1))⟩,
  ⟨some 42, none, .load false 1 (.slot 41)⟩,
  ⟨some 43, none, .faddr 22 (.slot 1)⟩,
  ⟨none, none, .store false 1 (.slot 43) (.slot 40)⟩,
  ⟨some 44, none, .faddr 23 (.slot 1)⟩,
  ⟨none, none, .store false 1 (.slot 44) (.slot 42)⟩]
def q50R10 : List AOper := [⟨some 45, none, .load true 33 (.slot 1)⟩,
  ⟨none, none, .store true 33 (.slot 2) (.slot 45)⟩]
def c_session_settled : AFn := ⟨(.seq (.region q50R0 false [1, 2]) (.seq (.region q50R1 true [1, 2]) (.seq (.region q50R2 false [1, 2, 3]) (.seq (.seq (.region q50R3 false [1, 2, 3, 18, 19, 20]) (.block 0 lp_session_settled_0)) (.seq (.region q50R8 false [1, 2, 6]) (.seq (.regionQ q50R9 [0, 1, 2, 3, 4, 5, 6, 7] [(3, [5, 7])] [1, 2]) (.seq (.region q50R10 false [2]) .ret))))))), [.cell 2 true 33]⟩
/- oriel/session.with -/
def q51R0 : List AOper := [⟨some 3, none, .box 33 (.slot 0)⟩,
  ⟨some 6, none, .alloc (.data false 2 [] true :: .int .i64 0 :: .data false 1 [] true :: .data false 3 [] true :: .int .i64 0 :: .int .i64 0 :: .int .i64 0 :: .int .i64 0 :: .int .i64 0 :: .int .i64 0 :: .int .i64 0 :: .int .i64 0 :: .int .i64 0 :: .int .i64 0 :: .int .i64 0 :: .int .i64 0 :: .int .i64 0 :: .int .i64 0 :: .int .i64 0 :: .int .i64 0 :: .int .i64 0 :: .int .i64 0 :: .int .i64 0 :: .int .i64 0 :: .int .i64 0 :: .int .i64 0 :: .int .i64 0 :: .int .i64 0 :: .int .i64 0 :: .int .i64 0 :: .int .i64 0 :: .int .i64 0 :: .int .i64 0 :: [])⟩,
  ⟨some 7, none, .mov (.const (.int .i64 0))⟩]
def q51R1 : List AOper := [⟨some 11, none, .mov (.slot 2)⟩,
  ⟨some 12, none, .bin .neq (.slot 11) (.const (.int .i64 0))⟩]
def q51R2 : List AOper := [⟨some 13, none, .build (.data false 2 [] true :: .int .i64 0 :: .data false 1 [] true :: .data false 3 [] true :: .int .i64 0 :: .int .i64 0 :: .int .i64 0 :: .int .i64 0 :: .int .i64 0 :: .int .i64 0 :: .int .i64 0 :: .int .i64 0 :: .int .i64 0 :: .int .i64 0 :: .int .i64 0 :: .int .i64 0 :: .int .i64 0 :: .int .i64 0 :: .int .i64 0 :: .int .i64 0 :: .int .i64 0 :: .int .i64 0 :: .int .i64 0 :: .int .i64 0 :: .int .i64 0 :: .int .i64 0 :: .int .i64 0 :: .int .i64 0 :: .int .i64 0 :: .int .i64 0 :: .int .i64 0 :: .int .i64 0 :: .int .i64 0 :: []) []⟩,
  ⟨some 14, none, .mov (.slot 2)⟩,
  ⟨none, none, .store true 33 (.slot 6) (.slot 13)⟩,
  ⟨some 7, none, .mov (.slot 14)⟩]
def q51R3 : List AOper := [⟨some 15, none, .load true 33 (.slot 3)⟩,
  ⟨some 16, none, .call .frz n_session_copied [(.slot 15)]⟩,
  ⟨none, none, .store true 33 (.slot 3) (.slot 16)⟩]
def q51R4 : List AOper := [⟨some 17, none, .mov (.slot 1)⟩,
  ⟨some 18, none, .faddr 0 (.slot 3)⟩,
  ⟨none, none, .store false 1 (.slot 18) (.slot 17)⟩]
def q51R5 : List AOper := [⟨some 19, none, .mov (.const (.int .i64 0))⟩]
def q51R6 : List AOper := [⟨some 20, none, .bin .lss (.slot 19) (.const (.int .i64 9))⟩]
def q51R7 : List AOper := [⟨some 21, none, .mov (.slot 19)⟩,
  ⟨some 8, none, .mov (.slot 21)⟩]
def q51R8 : List AOper := [⟨some 23, none, .mov (.slot 1)⟩,
  ⟨some 24, none, .mov (.slot 8)⟩,
  ⟨some 25, none, .call .frz n_roster_Find [(.slot 23), (.slot 24)]⟩,
  ⟨some 22, none, .mov (.slot 25)⟩,
  ⟨some 26, none, .extract 0 (.slot 22)⟩,
  ⟨some 27, none, .extract 1 (.slot 22)⟩,
  ⟨some 9, none, .alloc [.int .i64 0, .int .i64 0]⟩,
  ⟨none, none, .store true 2 (.slot 9) (.slot 26)⟩,
  ⟨some 10, none, .mov (.slot 27)⟩]
def q51R9 : List AOper := [⟨some 28, none, .mov (.slot 10)⟩,
  ⟨some 29, none, .not (.slot 28)⟩]
def q51R10 : List AOper := [⟨some 30, none, .mov (.slot 8)⟩,
  ⟨some 31, none, .mov (.slot 8)⟩,
  ⟨some 32, none, .build [.int .i64 0, .int .i64 0] []⟩,
  ⟨some 33, none, .faddr 24 (.slot 3)⟩,
  ⟨some 34, none, .idxarr 1 9 (.slot 33) (.slot 30)⟩,
  ⟨none, none, .store false 1 (.slot 34) (.const (.int .i64 0))⟩,
  ⟨some 35, none, .faddr 4 (.slot 3)⟩,
  ⟨some 36, none, .idxarr 2 9 (.slot 35) (.slot 31)⟩,
  ⟨none, none, .store true 2 (.slot 36) (.slot 32)⟩]
def q51R11 : List AOper := [⟨some 37, none, .faddr 3 (.slot 3)⟩,
  ⟨some 38, none, .load false 1 (.slot 37)⟩,
  ⟨some 39, none, .mov (.slot 8)⟩,
  ⟨some 40, none, .call .frz n_merge_Drop [(.slot 38), (.slot 39)]⟩,
  ⟨some 41, none, .faddr 3 (.slot 3)⟩,
  ⟨none, none, .store false 1 (.slot 41) (.slot 40)⟩]
def q51R12 : List AOper := [⟨some 42, none, .bin .add (.slot 19) (.const (.int .i64 1))⟩,
  ⟨some 19, none, .mov (.slot 42)⟩]
def c_session_with_L0 : ACode := (.seq (.region q51R6 false [1, 3, 6, 19, 20]) (.seq (.cond (.slot 20) .skip (.exit 0)) (.seq (.block 1 (.seq (.region q51R7 false [1, 3, 6, 8, 19]) (.seq (.region q51R8 false [1, 3, 6, 8, 10, 19]) (.seq (.region q51R9 false [1, 3, 6, 8, 19, 29]) (.cond (.slot 29) (.seq (.region q51R10 false [1, 3, 6, 8, 19]) (.region q51R11 false [1, 3, 6, 19])) .skip))))) (.region q51R12 false [1, 3, 6, 19]))))
def lp_session_with_0 : ACode := .loop [1, 3, 6, 19] c_session_with_L0
def q51R13 : List AOper := [⟨some 43, none, .load true 33 (.slot 3)⟩,
  ⟨some 44, none, .call .frz n_session_settled [(.slot 43)]⟩,
  ⟨none, none, .store true 33 (.slot 6) (.slot 44)⟩,
  ⟨some 7, none, .mov (.const (.int .i64 0))⟩]
def c_session_with : AFn := ⟨(.seq (.region q51R0 false [1, 2, 3, 6]) (.seq (.seq (.region q51R1 false [1, 2, 3, 6, 12]) (.cond (.slot 12) (.seq (.region q51R2 false [6, 7]) .ret) .skip)) (.seq (.region q51R3 false [1, 3, 6]) (.seq (.region q51R4 false [1, 3, 6]) (.seq (.seq (.region q51R5 false [1, 3, 6, 19]) (.block 0 lp_session_with_0)) (.seq (.region q51R13 false [6, 7]) .ret)))))), [.cell 6 true 33, .slot 7]⟩
/- oriel/session.Join -/
def q35R0 : List AOper := [⟨some 3, none, .box 33 (.slot 0)⟩,
  ⟨some 6, none, .alloc (.data false 2 [] true :: .int .i64 0 :: .data false 1 [] true :: .data false 3 [] true :: .int .i64 0 :: .int .i64 0 :: .int .i64 0 :: .int .i64 0 :: .int .i64 0 :: .int .i64 0 :: .int .i64 0 :: .int .i64 0 :: .int .i64 0 :: .int .i64 0 :: .int .i64 0 :: .int .i64 0 :: .int .i64 0 :: .int .i64 0 :: .int .i64 0 :: .int .i64 0 :: .int .i64 0 :: .int .i64 0 :: .int .i64 0 :: .int .i64 0 :: .int .i64 0 :: .int .i64 0 :: .int .i64 0 :: .int .i64 0 :: .int .i64 0 :: .int .i64 0 :: .int .i64 0 :: .int .i64 0 :: .int .i64 0 :: [])⟩,
  ⟨some 7, none, .mov (.const (.int .i64 0))⟩]
def q35R1 : List AOper := [⟨some 10, none, .load true 33 (.slot 3)⟩,
  ⟨some 11, none, .call .frz n_session_May [(.slot 10)]⟩,
  ⟨some 12, none, .not (.slot 11)⟩]
def q35R2 : List AOper := [⟨some 13, none, .build (.data false 2 [] true :: .int .i64 0 :: .data false 1 [] true :: .data false 3 [] true :: .int .i64 0 :: .int .i64 0 :: .int .i64 0 :: .int .i64 0 :: .int .i64 0 :: .int .i64 0 :: .int .i64 0 :: .int .i64 0 :: .int .i64 0 :: .int .i64 0 :: .int .i64 0 :: .int .i64 0 :: .int .i64 0 :: .int .i64 0 :: .int .i64 0 :: .int .i64 0 :: .int .i64 0 :: .int .i64 0 :: .int .i64 0 :: .int .i64 0 :: .int .i64 0 :: .int .i64 0 :: .int .i64 0 :: .int .i64 0 :: .int .i64 0 :: .int .i64 0 :: .int .i64 0 :: .int .i64 0 :: .int .i64 0 :: []) []⟩,
  ⟨none, none, .store true 33 (.slot 6) (.slot 13)⟩,
  ⟨some 7, none, .mov (.const (.int .i64 2))⟩]
def q35R3 : List AOper := [⟨some 15, none, .faddr 0 (.slot 3)⟩,
  ⟨some 16, none, .load false 1 (.slot 15)⟩,
  ⟨some 17, none, .mov (.slot 1)⟩,
  ⟨some 18, none, .mov (.slot 2)⟩,
  ⟨some 19, none, .call .frz n_roster_Join [(.slot 16), (.slot 17), (.slot 18)]⟩,
  ⟨some 14, none, .mov (.slot 19)⟩,
  ⟨some 20, none, .extract 0 (.slot 14)⟩,
  ⟨some 21, none, .extract 1 (.slot 14)⟩,
  ⟨some 8, none, .mov (.slot 20)⟩,
  ⟨some 9, none, .mov (.slot 21)⟩]
def q35R4 : List AOper := [⟨some 22, none, .load true 33 (.slot 3)⟩,
  ⟨some 23, none, .mov (.slot 8)⟩,
  ⟨some 24, none, .mov (.slot 9)⟩,
  ⟨some 25, none, .call .frz n_session_with [(.slot 22), (.slot 23), (.slot 24)]⟩,
  ⟨some 26, none, .extract 0 (.slot 25)⟩,
  ⟨some 27, none, .extract 1 (.slot 25)⟩,
  ⟨none, none, .store true 33 (.slot 6) (.slot 26)⟩,
  ⟨some 7, none, .mov (.slot 27)⟩]
def c_session_Join : AFn := ⟨(.seq (.region q35R0 false [1, 2, 3, 6]) (.seq (.seq (.region q35R1 false [1, 2, 3, 6, 12]) (.cond (.slot 12) (.seq (.region q35R2 false [6, 7]) .ret) .skip)) (.seq (.region q35R3 false [3, 6, 8, 9]) (.seq (.region q35R4 false [6, 7]) .ret)))), [.cell 6 true 33, .slot 7]⟩
/- slices.DeleteFunc[[]oriel/api.Member,oriel/api.Member] -/
def q67R0 : List AOper := [⟨some 4, none, .mov (.const (.data false 2 [] true))⟩]
def q67R1 : List AOper := [⟨some 8, none, .mov (.slot 0)⟩,
  ⟨some 9, none, .mov (.slot 1)⟩,
  ⟨some 10, none, .call .inl n_slices_IndexFunc_Member [(.slot 8), (.slot 9)]⟩,
  ⟨some 5, none, .mov (.slot 10)⟩]
def q67R2 : List AOper := [⟨some 11, none, .mov (.slot 5)⟩,
  ⟨some 12, none, .bin .eql (.slot 11) (.const (.int .i64 (-1)))⟩]
def q67R3 : List AOper := [⟨some 13, none, .mov (.slot 0)⟩,
  ⟨some 4, none, .mov (.slot 13)⟩]
def q67R4 : List AOper := [⟨some 14, none, .mov (.slot 5)⟩,
  ⟨some 15, none, .bin .add (.slot 14) (.const (.int .i64 1))⟩,
  ⟨some 6, none, .mov (.slot 15)⟩]
def q67R5 : List AOper := [⟨some 16, none, .mov (.slot 6)⟩,
  ⟨some 17, none, .mov (.slot 0)⟩,
  ⟨some 18, none, .len false (.slot 17)⟩,
  ⟨some 19, none, .bin .lss (.slot 16) (.slot 18)⟩]
def q67R7 : List AOper := [⟨some 22, none, .mov (.slot 0)⟩,
  ⟨some 23, none, .mov (.slot 6)⟩,
  ⟨some 24, none, .idx 2 (.slot 22) (.slot 23)⟩,
  ⟨some 25, none, .load true 2 (.slot 24)⟩,
  ⟨some 7, none, .alloc [.int .i64 0, .int .i64 0]⟩,
  ⟨none, none, .store true 2 (.slot 7) (.slot 25)⟩]
def q67R8 : List AOper := [⟨some 26, none, .mov (.slot 1)⟩,
  ⟨some 27, none, .load true 2 (.slot 7)⟩,
  ⟨some 28, none, .callv (.slot 26) [(.slot 27)]⟩,
  ⟨some 29, none, .not (.slot 28)⟩]
def q67R9 : List AOper := [⟨some 30, none, .mov (.slot 0)⟩,
  ⟨some 31, none, .mov (.slot 5)⟩,
  ⟨some 32, none, .load true 2 (.slot 7)⟩,
  ⟨some 33, none, .idx 2 (.slot 30) (.slot 31)⟩,
  ⟨none, none, .store true 2 (.slot 33) (.slot 32)⟩]
def q67R10 : List AOper := [⟨some 34, none, .mov (.slot 5)⟩,
  ⟨some 35, none, .bin .add (.slot 34) (.const (.int .i64 1))⟩,
  ⟨some 5, none, .mov (.slot 35)⟩]
def q67R6 : List AOper := [⟨some 20, none, .mov (.slot 6)⟩,
  ⟨some 21, none, .bin .add (.slot 20) (.const (.int .i64 1))⟩,
  ⟨some 6, none, .mov (.slot 21)⟩]
def c_slices_DeleteFunc_Member_L0 : ACode := (.seq (.seq (.region q67R5 false [0, 1, 5, 6, 19]) (.cond (.slot 19) .skip (.exit 0))) (.seq (.block 1 (.seq (.region q67R7 false [0, 1, 5, 6, 7]) (.seq (.region q67R8 false [0, 1, 5, 6, 7, 29]) (.cond (.slot 29) (.seq (.region q67R9 false [0, 1, 5, 6]) (.region q67R10 false [0, 1, 5, 6])) .skip)))) (.region q67R6 false [0, 1, 5, 6])))
def lp_slices_DeleteFunc_Member_0 : ACode := .loop [0, 1, 5, 6] c_slices_DeleteFunc_Member_L0
def q67R11 : List AOper := [⟨some 36, none, .mov (.slot 0)⟩,
  ⟨some 37, none, .mov (.slot 5)⟩,
  ⟨some 38, none, .sl 2 (.slot 36) (some (.slot 37)) none none⟩,
  ⟨none, none, .clear [.int .i64 0, .int .i64 0] (.slot 38)⟩]
def q67R12 : List AOper := [⟨some 39, none, .mov (.slot 0)⟩,
  ⟨some 40, none, .mov (.slot 5)⟩,
  ⟨some 41, none, .sl 2 (.slot 39) none (some (.slot 40)) none⟩,
  ⟨some 4, none, .mov (.slot 41)⟩]
def c_slices_DeleteFunc_Member : AFn := ⟨(.seq (.region q67R0 false [0, 1]) (.seq (.region q67R1 false [0, 1, 5]) (.seq (.seq (.region q67R2 false [0, 1, 5, 12]) (.cond (.slot 12) (.seq (.region q67R3 false [4]) .ret) .skip)) (.seq (.seq (.region q67R4 false [0, 1, 5, 6]) (.block 0 lp_slices_DeleteFunc_Member_0)) (.seq (.region q67R11 false [0, 5]) (.seq (.region q67R12 false [4]) .ret)))))), [.slot 4]⟩
/- oriel/roster.Leave'1 -/
def q26R0 : List AOper := [⟨some 2, none, .box 2 (.slot 0)⟩,
  ⟨some 3, none, .mov (.const (.bool false))⟩]
def q26R1 : List AOper := [⟨some 4, none, .load true 2 (.slot 2)⟩,
  ⟨some 5, none, .load true 2 (.slot 1)⟩,
  ⟨some 6, none, .eq true [.ki, .ki] false (.slot 4) (.slot 5)⟩,
  ⟨some 3, none, .mov (.slot 6)⟩]
def c_roster_Leave_1 : AFn := ⟨(.seq (.region q26R0 false [1, 2]) (.seq (.region q26R1 false [3]) .ret)), [.slot 3]⟩
/- oriel/roster.Leave -/
def q25R0 : List AOper := [⟨some 4, none, .mov (.const (.data false 2 [] true))⟩,
  ⟨some 5, none, .mov (.const (.int .i64 0))⟩]
def q25R1 : List AOper := [⟨some 8, none, .mov (.slot 0)⟩,
  ⟨some 9, none, .call .frz n_roster_May [(.slot 8)]⟩,
  ⟨some 10, none, .not (.slot 9)⟩]
def q25R2 : List AOper := [⟨some 4, none, .mov (.const (.data false 2 [] true))⟩,
  ⟨some 5, none, .mov (.const (.int .i64 2))⟩]
def q25R3 : List AOper := [⟨some 12, none, .mov (.slot 0)⟩,
  ⟨some 13, none, .mov (.slot 1)⟩,
  ⟨some 14, none, .call .frz n_roster_Find [(.slot 12), (.slot 13)]⟩,
  ⟨some 11, none, .mov (.slot 14)⟩,
  ⟨some 15, none, .extract 0 (.slot 11)⟩,
  ⟨some 16, none, .extract 1 (.slot 11)⟩,
  ⟨some 6, none, .alloc [.int .i64 0, .int .i64 0]⟩,
  ⟨none, none, .store true 2 (.slot 6) (.slot 15)⟩,
  ⟨some 7, none, .mov (.slot 16)⟩]
def q25R4 : List AOper := [⟨some 17, none, .mov (.slot 7)⟩,
  ⟨some 18, none, .not (.slot 17)⟩]
def q25R5 : List AOper := [⟨some 4, none, .mov (.const (.data false 2 [] true))⟩,
  ⟨some 5, none, .mov (.const (.int .i64 6))⟩]
def q25R6 : List AOper := [⟨some 19, none, .mov (.slot 0)⟩,
  ⟨some 20, none, .call .adp n_slices_Clone_Member [(.slot 19)]⟩,
  ⟨some 21, none, .mkfn (.func n_roster_Leave_1) [] [(.slot 6)]⟩,
  ⟨some 22, none, .call .inl n_slices_DeleteFunc_Member [(.slot 20), (.slot 21)]⟩,
  ⟨some 4, none, .mov (.slot 22)⟩,
  ⟨some 5, none, .mov (.const (.int .i64 0))⟩]
def c_roster_Leave : AFn := ⟨(.seq (.region q25R0 false [0, 1]) (.seq (.seq (.region q25R1 false [0, 1, 10]) (.cond (.slot 10) (.seq (.region q25R2 false [4, 5]) .ret) .skip)) (.seq (.region q25R3 false [0, 6, 7]) (.seq (.seq (.region q25R4 false [0, 6, 18]) (.cond (.slot 18) (.seq (.region q25R5 false [4, 5]) .ret) .skip)) (.seq (.region q25R6 false [4, 5]) .ret))))), [.slot 4, .slot 5]⟩
/- oriel/session.Leave -/
def q36R0 : List AOper := [⟨some 2, none, .box 33 (.slot 0)⟩,
  ⟨some 4, none, .alloc (.data false 2 [] true :: .int .i64 0 :: .data false 1 [] true :: .data false 3 [] true :: .int .i64 0 :: .int .i64 0 :: .int .i64 0 :: .int .i64 0 :: .int .i64 0 :: .int .i64 0 :: .int .i64 0 :: .int .i64 0 :: .int .i64 0 :: .int .i64 0 :: .int .i64 0 :: .int .i64 0 :: .int .i64 0 :: .int .i64 0 :: .int .i64 0 :: .int .i64 0 :: .int .i64 0 :: .int .i64 0 :: .int .i64 0 :: .int .i64 0 :: .int .i64 0 :: .int .i64 0 :: .int .i64 0 :: .int .i64 0 :: .int .i64 0 :: .int .i64 0 :: .int .i64 0 :: .int .i64 0 :: .int .i64 0 :: [])⟩,
  ⟨some 5, none, .mov (.const (.int .i64 0))⟩]
def q36R1 : List AOper := [⟨some 8, none, .load true 33 (.slot 2)⟩,
  ⟨some 9, none, .call .frz n_session_May [(.slot 8)]⟩,
  ⟨some 10, none, .not (.slot 9)⟩]
def q36R2 : List AOper := [⟨some 11, none, .build (.data false 2 [] true :: .int .i64 0 :: .data false 1 [] true :: .data false 3 [] true :: .int .i64 0 :: .int .i64 0 :: .int .i64 0 :: .int .i64 0 :: .int .i64 0 :: .int .i64 0 :: .int .i64 0 :: .int .i64 0 :: .int .i64 0 :: .int .i64 0 :: .int .i64 0 :: .int .i64 0 :: .int .i64 0 :: .int .i64 0 :: .int .i64 0 :: .int .i64 0 :: .int .i64 0 :: .int .i64 0 :: .int .i64 0 :: .int .i64 0 :: .int .i64 0 :: .int .i64 0 :: .int .i64 0 :: .int .i64 0 :: .int .i64 0 :: .int .i64 0 :: .int .i64 0 :: .int .i64 0 :: .int .i64 0 :: []) []⟩,
  ⟨none, none, .store true 33 (.slot 4) (.slot 11)⟩,
  ⟨some 5, none, .mov (.const (.int .i64 2))⟩]
def q36R3 : List AOper := [⟨some 13, none, .faddr 0 (.slot 2)⟩,
  ⟨some 14, none, .load false 1 (.slot 13)⟩,
  ⟨some 15, none, .mov (.slot 1)⟩,
  ⟨some 16, none, .call .frz n_roster_Leave [(.slot 14), (.slot 15)]⟩,
  ⟨some 12, none, .mov (.slot 16)⟩,
  ⟨some 17, none, .extract 0 (.slot 12)⟩,
  ⟨some 18, none, .extract 1 (.slot 12)⟩,
  ⟨some 6, none, .mov (.slot 17)⟩,
  ⟨some 7, none, .mov (.slot 18)⟩]
def q36R4 : List AOper := [⟨some 19, none, .load true 33 (.slot 2)⟩,
  ⟨some 20, none, .mov (.slot 6)⟩,
  ⟨some 21, none, .mov (.slot 7)⟩,
  ⟨some 22, none, .call .frz n_session_with [(.slot 19), (.slot 20), (.slot 21)]⟩,
  ⟨some 23, none, .extract 0 (.slot 22)⟩,
  ⟨some 24, none, .extract 1 (.slot 22)⟩,
  ⟨none, none, .store true 33 (.slot 4) (.slot 23)⟩,
  ⟨some 5, none, .mov (.slot 24)⟩]
def c_session_Leave : AFn := ⟨(.seq (.region q36R0 false [1, 2, 4]) (.seq (.seq (.region q36R1 false [1, 2, 4, 10]) (.cond (.slot 10) (.seq (.region q36R2 false [4, 5]) .ret) .skip)) (.seq (.region q36R3 false [2, 4, 6, 7]) (.seq (.region q36R4 false [4, 5]) .ret)))), [.cell 4 true 33, .slot 5]⟩
/- oriel/roster.Change -/
def q22R0 : List AOper := [⟨some 6, none, .mov (.const (.data false 2 [] true))⟩,
  ⟨some 7, none, .mov (.const (.int .i64 0))⟩]
def q22R1 : List AOper := [⟨some 13, none, .mov (.slot 0)⟩,
  ⟨some 14, none, .call .frz n_roster_May [(.slot 13)]⟩,
  ⟨some 15, none, .not (.slot 14)⟩,
  ⟨some 16, none, .mov (.slot 15)⟩,
  ⟨some 17, some (16, false), .mov (.slot 2)⟩,
  ⟨some 18, some (16, false), .call .frz n_roster_role [(.slot 17)]⟩,
  ⟨some 19, some (16, false), .not (.slot 18)⟩,
  ⟨some 20, none, .pick (.slot 16) (.const (.bool true)) (.slot 19)⟩]
def q22R2 : List AOper := [⟨some 6, none, .mov (.const (.data false 2 [] true))⟩,
  ⟨some 7, none, .mov (.const (.int .i64 2))⟩]
def q22R3 : List AOper := [⟨some 22, none, .mov (.slot 0)⟩,
  ⟨some 23, none, .mov (.slot 1)⟩,
  ⟨some 24, none, .call .frz n_roster_Find [(.slot 22), (.slot 23)]⟩,
  ⟨some 21, none, .mov (.slot 24)⟩,
  ⟨some 25, none, .extract 0 (.slot 21)⟩,
  ⟨some 26, none, .extract 1 (.slot 21)⟩,
  ⟨some 8, none, .alloc [.int .i64 0, .int .i64 0]⟩,
  ⟨none, none, .store true 2 (.slot 8) (.slot 25)⟩,
  ⟨some 9, none, .mov (.slot 26)⟩]
def q22R4 : List AOper := [⟨some 27, none, .mov (.slot 9)⟩,
  ⟨some 28, none, .not (.slot 27)⟩]
def q22R5 : List AOper := [⟨some 6, none, .mov (.const (.data false 2 [] true))⟩,
  ⟨some 7, none, .mov (.const (.int .i64 6))⟩]
def q22R6 : List AOper := [⟨some 29, none, .mov (.slot 0)⟩,
  ⟨some 30, none, .call .adp n_slices_Clone_Member [(.slot 29)]⟩,
  ⟨some 10, none, .mov (.slot 30)⟩]
def q22R7 : List AOper := [⟨some 32, none, .mov (.slot 0)⟩,
  ⟨some 33, none, .mov (.slot 1)⟩,
  ⟨some 34, none, .call .frz n_roster_place [(.slot 32), (.slot 33)]⟩,
  ⟨some 31, none, .mov (.slot 34)⟩,
  ⟨some 35, none, .extract 0 (.slot 31)⟩,
  ⟨some 36, none, .extract 1 (.slot 31)⟩,
  ⟨some 11, none, .mov (.slot 35)⟩,
  ⟨some 12, none, .mov (.slot 36)⟩]
def q22R8 : List AOper := [⟨some 37, none, .mov (.slot 10)⟩,
  ⟨some 38, none, .mov (.slot 11)⟩,
  ⟨some 39, none, .mov (.slot 2)⟩,
  ⟨some 40, none, .idx 2 (.slot 37) (.slot 38)⟩,
  ⟨some 41, none, .faddr 1 (.slot 40)⟩,
  ⟨none, none, .store false 1 (.slot 41) (.slot 39)⟩]
def q22R9 : List AOper := [⟨some 42, none, .mov (.slot 10)⟩,
  ⟨some 6, none, .mov (.slot 42)⟩,
  ⟨some 7, none, .mov (.const (.int .i64 0))⟩]
def c_roster_Change : AFn := ⟨(.seq (.region q22R0 false [0, 1, 2]) (.seq (.seq (.region q22R1 false [0, 1, 2, 20]) (.cond (.slot 20) (.seq (.region q22R2 false [6, 7]) .ret) .skip)) (.seq (.seq (.region q22R3 false [0, 1, 2, 9]) (.seq (.region q22R4 false [0, 1, 2, 28]) (.cond (.slot 28) (.seq (.region q22R5 false [6, 7]) .ret) .skip))) (.seq (.region q22R6 false [0, 1, 2, 10]) (.seq (.region q22R7 false [2, 10, 11]) (.seq (.region q22R8 false [10]) (.seq (.region q22R9 false [6, 7]) .ret))))))), [.slot 6, .slot 7]⟩
/- oriel/session.Change -/
def q33R0 : List AOper := [⟨some 3, none, .box 33 (.slot 0)⟩,
  ⟨some 6, none, .alloc (.data false 2 [] true :: .int .i64 0 :: .data false 1 [] true :: .data false 3 [] true :: .int .i64 0 :: .int .i64 0 :: .int .i64 0 :: .int .i64 0 :: .int .i64 0 :: .int .i64 0 :: .int .i64 0 :: .int .i64 0 :: .int .i64 0 :: .int .i64 0 :: .int .i64 0 :: .int .i64 0 :: .int .i64 0 :: .int .i64 0 :: .int .i64 0 :: .int .i64 0 :: .int .i64 0 :: .int .i64 0 :: .int .i64 0 :: .int .i64 0 :: .int .i64 0 :: .int .i64 0 :: .int .i64 0 :: .int .i64 0 :: .int .i64 0 :: .int .i64 0 :: .int .i64 0 :: .int .i64 0 :: .int .i64 0 :: [])⟩,
  ⟨some 7, none, .mov (.const (.int .i64 0))⟩]
def q33R1 : List AOper := [⟨some 10, none, .load true 33 (.slot 3)⟩,
  ⟨some 11, none, .call .frz n_session_May [(.slot 10)]⟩,
  ⟨some 12, none, .not (.slot 11)⟩]
def q33R2 : List AOper := [⟨some 13, none, .build (.data false 2 [] true :: .int .i64 0 :: .data false 1 [] true :: .data false 3 [] true :: .int .i64 0 :: .int .i64 0 :: .int .i64 0 :: .int .i64 0 :: .int .i64 0 :: .int .i64 0 :: .int .i64 0 :: .int .i64 0 :: .int .i64 0 :: .int .i64 0 :: .int .i64 0 :: .int .i64 0 :: .int .i64 0 :: .int .i64 0 :: .int .i64 0 :: .int .i64 0 :: .int .i64 0 :: .int .i64 0 :: .int .i64 0 :: .int .i64 0 :: .int .i64 0 :: .int .i64 0 :: .int .i64 0 :: .int .i64 0 :: .int .i64 0 :: .int .i64 0 :: .int .i64 0 :: .int .i64 0 :: .int .i64 0 :: []) []⟩,
  ⟨none, none, .store true 33 (.slot 6) (.slot 13)⟩,
  ⟨some 7, none, .mov (.const (.int .i64 2))⟩]
def q33R3 : List AOper := [⟨some 15, none, .faddr 0 (.slot 3)⟩,
  ⟨some 16, none, .load false 1 (.slot 15)⟩,
  ⟨some 17, none, .mov (.slot 1)⟩,
  ⟨some 18, none, .mov (.slot 2)⟩,
  ⟨some 19, none, .call .frz n_roster_Change [(.slot 16), (.slot 17), (.slot 18)]⟩,
  ⟨some 14, none, .mov (.slot 19)⟩,
  ⟨some 20, none, .extract 0 (.slot 14)⟩,
  ⟨some 21, none, .extract 1 (.slot 14)⟩,
  ⟨some 8, none, .mov (.slot 20)⟩,
  ⟨some 9, none, .mov (.slot 21)⟩]
def q33R4 : List AOper := [⟨some 22, none, .load true 33 (.slot 3)⟩,
  ⟨some 23, none, .mov (.slot 8)⟩,
  ⟨some 24, none, .mov (.slot 9)⟩,
  ⟨some 25, none, .call .frz n_session_with [(.slot 22), (.slot 23), (.slot 24)]⟩,
  ⟨some 26, none, .extract 0 (.slot 25)⟩,
  ⟨some 27, none, .extract 1 (.slot 25)⟩,
  ⟨none, none, .store true 33 (.slot 6) (.slot 26)⟩,
  ⟨some 7, none, .mov (.slot 27)⟩]
def c_session_Change : AFn := ⟨(.seq (.region q33R0 false [1, 2, 3, 6]) (.seq (.seq (.region q33R1 false [1, 2, 3, 6, 12]) (.cond (.slot 12) (.seq (.region q33R2 false [6, 7]) .ret) .skip)) (.seq (.region q33R3 false [3, 6, 8, 9]) (.seq (.region q33R4 false [6, 7]) .ret)))), [.cell 6 true 33, .slot 7]⟩
/- slices.IndexFunc[[]oriel/api.Deed,oriel/api.Deed] -/
def q74R0 : List AOper := [⟨some 4, none, .mov (.const (.int .i64 0))⟩]
def q74R1 : List AOper := [⟨some 6, none, .mov (.slot 0)⟩,
  ⟨some 7, none, .len false (.slot 6)⟩,
  ⟨some 8, none, .mov (.const (.int .i64 0))⟩]
def q74R2 : List AOper := [⟨some 9, none, .bin .lss (.slot 8) (.slot 7)⟩]
def q74R3 : List AOper := [⟨some 10, none, .mov (.slot 8)⟩,
  ⟨some 5, none, .mov (.slot 10)⟩]
def q74R4 : List AOper := [⟨some 11, none, .mov (.slot 1)⟩,
  ⟨some 12, none, .mov (.slot 0)⟩,
  ⟨some 13, none, .mov (.slot 5)⟩,
  ⟨some 14, none, .idx 4 (.slot 12) (.slot 13)⟩,
  ⟨some 15, none, .load true 4 (.slot 14)⟩,
  ⟨some 16, none, .callv (.slot 11) [(.slot 15)]⟩]
def q74R5 : List AOper := [⟨some 17, none, .mov (.slot 5)⟩,
  ⟨some 4, none, .mov (.slot 17)⟩]
def q74R6 : List AOper := [⟨some 18, none, .bin .add (.slot 8) (.const (.int .i64 1))⟩,
  ⟨some 8, none, .mov (.slot 18)⟩]
def c_slices_IndexFunc_Deed_L0 : ACode := (.seq (.region q74R2 false [0, 1, 7, 8, 9]) (.seq (.cond (.slot 9) .skip (.exit 0)) (.seq (.block 1 (.seq (.region q74R3 false [0, 1, 5, 7, 8]) (.seq (.region q74R4 false [0, 1, 5, 7, 8, 16]) (.cond (.slot 16) (.seq (.region q74R5 false [4]) .ret) .skip)))) (.region q74R6 false [0, 1, 7, 8]))))
def lp_slices_IndexFunc_Deed_0 : ACode := .loop [0, 1, 7, 8] c_slices_IndexFunc_Deed_L0
def q74R7 : List AOper := [⟨some 4, none, .mov (.const (.int .i64 (-1)))⟩]
def c_slices_IndexFunc_Deed : AFn := ⟨(.seq (.region q74R0 false [0, 1]) (.seq (.seq (.region q74R1 false [0, 1, 7, 8]) (.block 0 lp_slices_IndexFunc_Deed_0)) (.seq (.region q74R7 false [4]) .ret))), [.slot 4]⟩
/- slices.ContainsFunc[[]oriel/api.Deed,oriel/api.Deed] -/
def q62R0 : List AOper := [⟨some 4, none, .mov (.const (.bool false))⟩]
def q62R1 : List AOper := [⟨some 5, none, .mov (.slot 0)⟩,
  ⟨some 6, none, .mov (.slot 1)⟩,
  ⟨some 7, none, .call .inl n_slices_IndexFunc_Deed [(.slot 5), (.slot 6)]⟩,
  ⟨some 8, none, .bin .geq (.slot 7) (.const (.int .i64 0))⟩,
  ⟨some 4, none, .mov (.slot 8)⟩]
def c_slices_ContainsFunc_Deed : AFn := ⟨(.seq (.region q62R0 false [0, 1]) (.seq (.region q62R1 false [4]) .ret)), [.slot 4]⟩
/- oriel/input.may'1 -/
def q5R0 : List AOper := [⟨some 2, none, .mov (.const (.bool false))⟩]
def q5R1 : List AOper := [⟨some 3, none, .mov (.slot 0)⟩,
  ⟨some 4, none, .bin .geq (.slot 3) (.const (.int .i64 1))⟩,
  ⟨some 5, none, .mov (.slot 4)⟩,
  ⟨some 6, some (5, true), .mov (.slot 0)⟩,
  ⟨some 7, some (5, true), .bin .leq (.slot 6) (.const (.int .i64 1000))⟩,
  ⟨some 8, none, .pick (.slot 5) (.slot 7) (.const (.bool false))⟩,
  ⟨some 2, none, .mov (.slot 8)⟩]
def c_input_may_1 : AFn := ⟨(.seq (.region q5R0 false [0]) (.seq (.region q5R1 false [2]) .ret)), [.slot 2]⟩
/- oriel/input.may -/
def q4R0 : List AOper := [⟨some 1, none, .box 4 (.slot 0)⟩,
  ⟨some 2, none, .mov (.const (.bool false))⟩]
def q4R1 : List AOper := [⟨some 3, none, .mov (.func n_input_may_1)⟩]
def q4R2 : List AOper := [⟨some 5, none, .faddr 2 (.slot 1)⟩,
  ⟨some 6, none, .load false 1 (.slot 5)⟩,
  ⟨some 7, none, .bin .neq (.slot 6) (.const (.int .i64 0))⟩,
  ⟨some 8, none, .mov (.slot 7)⟩,
  ⟨some 9, some (8, false), .faddr 3 (.slot 1)⟩,
  ⟨some 10, some (8, false), .load false 1 (.slot 9)⟩,
  ⟨some 11, some (8, false), .bin .neq (.slot 10) (.const (.int .i64 0))⟩,
  ⟨some 12, none, .pick (.slot 8) (.const (.bool true)) (.slot 11)⟩,
  ⟨some 4, none, .mov (.slot 12)⟩]
def q4R3 : List AOper := [⟨some 13, none, .faddr 0 (.slot 1)⟩,
  ⟨some 14, none, .load false 1 (.slot 13)⟩]
def q4R4 : List AOper := [⟨some 16, none, .bin .eql (.slot 14) (.const (.int .i64 1))⟩,
  ⟨some 15, none, .mov (.slot 16)⟩]
def q4R5 : List AOper := [⟨some 17, none, .faddr 1 (.slot 1)⟩,
  ⟨some 18, none, .load false 1 (.slot 17)⟩,
  ⟨some 19, none, .len false (.slot 18)⟩,
  ⟨some 20, none, .bin .geq (.slot 19) (.const (.int .i64 1))⟩,
  ⟨some 21, none, .mov (.slot 20)⟩,
  ⟨some 22, some (21, true), .faddr 1 (.slot 1)⟩,
  ⟨some 23, some (21, true), .load false 1 (.slot 22)⟩,
  ⟨some 24, some (21, true), .len false (.slot 23)⟩,
  ⟨some 25, some (21, true), .bin .leq (.slot 24) (.const (.int .i64 16))⟩,
  ⟨some 26, none, .pick (.slot 21) (.slot 25) (.const (.bool false))⟩,
  ⟨some 27, none, .mov (.slot 26)⟩,
  ⟨some 28, some (27, true), .mov (.slot 4)⟩,
  ⟨some 29, some (27, true), .not (.slot 28)⟩,
  ⟨some 30, none, .pick (.slot 27) (.slot 29) (.const (.bool false))⟩,
  ⟨some 2, none, .mov (.slot 30)⟩]
def q4R6 : List AOper := [⟨some 32, none, .bin .eql (.slot 14) (.const (.int .i64 2))⟩,
  ⟨some 31, none, .mov (.slot 32)⟩]
def q4R7 : List AOper := [⟨some 33, none, .mov (.slot 3)⟩,
  ⟨some 34, none, .faddr 2 (.slot 1)⟩,
  ⟨some 35, none, .load false 1 (.slot 34)⟩,
  ⟨some 36, none, .callv (.slot 33) [(.slot 35)]⟩,
  ⟨some 37, none, .mov (.slot 36)⟩,
  ⟨some 38, some (37, true), .mov (.slot 3)⟩,
  ⟨some 39, some (37, true), .faddr 3 (.slot 1)⟩,
  ⟨some 40, some (37, true), .load false 1 (.slot 39)⟩,
  ⟨some 41, some (37, true), .callv (.slot 38) [(.slot 40)]⟩,
  ⟨some 42, none, .pick (.slot 37) (.slot 41) (.const (.bool false))⟩,
  ⟨some 43, none, .mov (.slot 42)⟩,
  ⟨some 44, some (43, true), .faddr 1 (.slot 1)⟩,
  ⟨some 45, some (43, true), .load false 1 (.slot 44)⟩,
  ⟨some 46, some (43, true), .len false (.slot 45)⟩,
  ⟨some 47, some (43, true), .bin .eql (.slot 46) (.const (.int .i64 0))⟩,
  ⟨some 48, none, .pick (.slot 43) (.slot 47) (.const (.bool false))⟩,
  ⟨some 2, none, .mov (.slot 48)⟩]
def q4R8 : List AOper := [⟨some 50, none, .bin .eql (.slot 14) (.const (.int .i64 3))⟩,
  ⟨some 49, none, .mov (.slot 50)⟩]
def q4R9 : List AOper := [⟨some 51, none, .bin .eql (.slot 14) (.const (.int .i64 4))⟩,
  ⟨some 49, none, .mov (.slot 51)⟩]
def q4R10 : List AOper := [⟨some 52, none, .faddr 1 (.slot 1)⟩,
  ⟨some 53, none, .load false 1 (.slot 52)⟩,
  ⟨some 54, none, .len false (.slot 53)⟩,
  ⟨some 55, none, .bin .eql (.slot 54) (.const (.int .i64 0))⟩,
  ⟨some 56, none, .mov (.slot 55)⟩,
  ⟨some 57, some (56, true), .mov (.slot 4)⟩,
  ⟨some 58, some (56, true), .not (.slot 57)⟩,
  ⟨some 59, none, .pick (.slot 56) (.slot 58) (.const (.bool false))⟩,
  ⟨some 2, none, .mov (.slot 59)⟩]
def q4R11 : List AOper := [⟨some 2, none, .mov (.const (.bool false))⟩]
def c_input_may : AFn := ⟨(.seq (.region q4R0 false [1]) (.seq (.region q4R1 false [1, 3]) (.seq (.region q4R2 false [1, 3, 4]) (.seq (.seq (.region q4R3 false [1, 3, 4, 14]) (.block 0 (.seq (.region q4R4 false [1, 3, 4, 14, 15]) (.cond (.slot 15) (.seq (.region q4R5 false [2]) .ret) (.seq (.region q4R6 false [1, 3, 4, 14, 31]) (.cond (.slot 31) (.seq (.region q4R7 false [2]) .ret) (.seq (.seq (.region q4R8 false [1, 4, 14, 49]) (.cond (.slot 49) .skip (.region q4R9 false [1, 4, 49]))) (.cond (.slot 49) (.seq (.region q4R10 false [2]) .ret) .skip)))))))) (.seq (.region q4R11 false [2]) .ret))))), [.slot 2]⟩
/- oriel/input.May'1 -/
def q3R0 : List AOper := [⟨some 1, none, .box 4 (.slot 0)⟩,
  ⟨some 2, none, .mov (.const (.bool false))⟩]
def q3R1 : List AOper := [⟨some 3, none, .load true 4 (.slot 1)⟩,
  ⟨some 4, none, .call .frz n_input_may [(.slot 3)]⟩,
  ⟨some 5, none, .not (.slot 4)⟩,
  ⟨some 2, none, .mov (.slot 5)⟩]
def c_input_May_1 : AFn := ⟨(.seq (.region q3R0 false [1]) (.seq (.region q3R1 false [2]) .ret)), [.slot 2]⟩
/- oriel/input.May -/
def q2R0 : List AOper := [⟨some 1, none, .box 2 (.slot 0)⟩,
  ⟨some 2, none, .mov (.const (.bool false))⟩]
def q2R1 : List AOper := [⟨some 3, none, .faddr 0 (.slot 1)⟩,
  ⟨some 4, none, .load false 1 (.slot 3)⟩,
  ⟨some 5, none, .bin .lss (.slot 4) (.const (.int .i64 0))⟩,
  ⟨some 6, none, .mov (.slot 5)⟩,
  ⟨some 7, some (6, false), .faddr 1 (.slot 1)⟩,
  ⟨some 8, some (6, false), .load false 1 (.slot 7)⟩,
  ⟨some 9, some (6, false), .len false (.slot 8)⟩,
  ⟨some 10, some (6, false), .bin .gtr (.slot 9) (.const (.int .i64 64))⟩,
  ⟨some 11, none, .pick (.slot 6) (.const (.bool true)) (.slot 10)⟩,
  ⟨some 12, none, .mov (.slot 11)⟩,
  ⟨some 13, some (12, false), .faddr 0 (.slot 1)⟩,
  ⟨some 14, some (12, false), .load false 1 (.slot 13)⟩,
  ⟨some 15, some (12, false), .faddr 1 (.slot 1)⟩,
  ⟨some 16, some (12, false), .load false 1 (.slot 15)⟩,
  ⟨some 17, some (12, false), .len false (.slot 16)⟩,
  ⟨some 18, some (12, false), .bin .sub (.const (.int .i64 1073741824)) (.slot 17)⟩,
  ⟨some 19, some (12, false), .bin .gtr (.slot 14) (.slot 18)⟩,
  ⟨some 20, none, .pick (.slot 12) (.const (.bool true)) (.slot 19)⟩]
def q2R2 : List AOper := [⟨some 2, none, .mov (.const (.bool false))⟩]
def q2R3 : List AOper := [⟨some 21, none, .faddr 1 (.slot 1)⟩,
  ⟨some 22, none, .load false 1 (.slot 21)⟩,
  ⟨some 23, none, .call .inl n_slices_ContainsFunc_Deed [(.slot 22), (.func n_input_May_1)]⟩,
  ⟨some 24, none, .not (.slot 23)⟩,
  ⟨some 2, none, .mov (.slot 24)⟩]
def c_input_May : AFn := ⟨(.seq (.region q2R0 false [1]) (.seq (.seq (.region q2R1 false [1, 20]) (.cond (.slot 20) (.seq (.region q2R2 false [2]) .ret) .skip)) (.seq (.region q2R3 false [2]) .ret))), [.slot 2]⟩
/- oriel/merge.Push -/
def q18R0 : List AOper := [⟨some 3, none, .box 3 (.slot 1)⟩,
  ⟨some 4, none, .mov (.const (.data false 3 [] true))⟩,
  ⟨some 5, none, .mov (.const (.bool false))⟩]
def q18R1 : List AOper := [⟨some 7, none, .mov (.slot 0)⟩,
  ⟨some 8, none, .call .frz n_merge_May [(.slot 7)]⟩,
  ⟨some 9, none, .not (.slot 8)⟩]
def q18R2 : List AOper := [⟨some 4, none, .mov (.const (.data false 3 [] true))⟩,
  ⟨some 5, none, .mov (.const (.bool false))⟩]
def q18R3 : List AOper := [⟨some 10, none, .mov (.slot 0)⟩,
  ⟨some 11, none, .call .adp n_merge_copied [(.slot 10)]⟩,
  ⟨some 6, none, .mov (.slot 11)⟩]
def q18R4 : List AOper := [⟨some 12, none, .load true 3 (.slot 3)⟩,
  ⟨some 13, none, .call .frz n_merge_piece [(.slot 12)]⟩,
  ⟨some 14, none, .not (.slot 13)⟩,
  ⟨some 15, none, .mov (.slot 14)⟩,
  ⟨some 16, some (15, false), .mov (.slot 0)⟩,
  ⟨some 17, some (15, false), .call .frz n_merge_Size [(.slot 16)]⟩,
  ⟨some 18, some (15, false), .faddr 2 (.slot 3)⟩,
  ⟨some 19, some (15, false), .load false 1 (.slot 18)⟩,
  ⟨some 20, some (15, false), .len false (.slot 19)⟩,
  ⟨some 21, some (15, false), .bin .add (.slot 17) (.slot 20)⟩,
  ⟨some 22, some (15, false), .bin .gtr (.slot 21) (.const (.int .i64 64))⟩,
  ⟨some 23, none, .pick (.slot 15) (.const (.bool true)) (.slot 22)⟩]
def q18R5 : List AOper := [⟨some 24, none, .mov (.slot 6)⟩,
  ⟨some 4, none, .mov (.slot 24)⟩,
  ⟨some 5, none, .mov (.const (.bool false))⟩]
def q18R6 : List AOper := [⟨some 25, none, .mov (.slot 6)⟩,
  ⟨some 26, none, .load true 3 (.slot 3)⟩,
  ⟨some 27, none, .mkslice 3 1 [.int .i64 0, .int .i64 0, .data false 1 [] true] [(0, (.slot 26))]⟩,
  ⟨some 28, none, .call .inl n_merge_copied [(.slot 27)]⟩,
  ⟨some 29, none, .append 3 40 (.slot 25) (.slot 28)⟩,
  ⟨some 4, none, .mov (.slot 29)⟩,
  ⟨some 5, none, .mov (.const (.bool true))⟩]
def c_merge_Push : AFn := ⟨(.seq (.region q18R0 false [0, 3]) (.seq (.seq (.region q18R1 false [0, 3, 9]) (.cond (.slot 9) (.seq (.region q18R2 false [4, 5]) .ret) .skip)) (.seq (.region q18R3 false [0, 3, 6]) (.seq (.seq (.region q18R4 true [3, 6, 23]) (.cond (.slot 23) (.seq (.region q18R5 false [4, 5]) .ret) .skip)) (.seq (.region q18R6 false [4, 5]) .ret))))), [.slot 4, .slot 5]⟩
/- oriel/session.does'1 -/
def q46R0 : List AOper := [⟨some 4, none, .box 33 (.slot 0)⟩,
  ⟨some 5, none, .alloc (.data false 2 [] true :: .int .i64 0 :: .data false 1 [] true :: .data false 3 [] true :: .int .i64 0 :: .int .i64 0 :: .int .i64 0 :: .int .i64 0 :: .int .i64 0 :: .int .i64 0 :: .int .i64 0 :: .int .i64 0 :: .int .i64 0 :: .int .i64 0 :: .int .i64 0 :: .int .i64 0 :: .int .i64 0 :: .int .i64 0 :: .int .i64 0 :: .int .i64 0 :: .int .i64 0 :: .int .i64 0 :: .int .i64 0 :: .int .i64 0 :: .int .i64 0 :: .int .i64 0 :: .int .i64 0 :: .int .i64 0 :: .int .i64 0 :: .int .i64 0 :: .int .i64 0 :: .int .i64 0 :: .int .i64 0 :: [])⟩]
def q46R1 : List AOper := [⟨some 6, none, .faddr 1 (.slot 4)⟩,
  ⟨some 7, none, .faddr 0 (.slot 6)⟩,
  ⟨some 8, none, .load false 1 (.slot 7)⟩,
  ⟨some 9, none, .load false 1 (.slot 1)⟩,
  ⟨some 10, none, .bin .eql (.slot 8) (.slot 9)⟩]
def q46R2 : List AOper := [⟨some 12, none, .faddr 3 (.slot 4)⟩,
  ⟨some 13, none, .load false 1 (.slot 12)⟩,
  ⟨some 14, none, .load false 1 (.slot 1)⟩,
  ⟨some 15, none, .load false 1 (.slot 2)⟩,
  ⟨some 16, none, .faddr 1 (.slot 3)⟩,
  ⟨some 17, none, .load false 1 (.slot 16)⟩,
  ⟨some 18, none, .build [.int .i64 0, .int .i64 0, .data false 1 [] true] [(0, 1, (.slot 14)), (1, 1, (.slot 15)), (2, 1, (.slot 17))]⟩,
  ⟨some 19, none, .call .frz n_merge_Push [(.slot 13), (.slot 18)]⟩,
  ⟨some 11, none, .mov (.slot 19)⟩,
  ⟨some 20, none, .extract 0 (.slot 11)⟩,
  ⟨some 21, none, .extract 1 (.slot 11)⟩,
  ⟨some 22, none, .faddr 3 (.slot 4)⟩,
  ⟨none, none, .store false 1 (.slot 22) (.slot 20)⟩]
def q46R3 : List AOper := [⟨some 23, none, .load true 33 (.slot 4)⟩,
  ⟨none, none, .store true 33 (.slot 5) (.slot 23)⟩]
def c_session_does_1 : AFn := ⟨(.seq (.region q46R0 false [1, 2, 3, 4, 5]) (.seq (.seq (.region q46R1 false [1, 2, 3, 4, 5, 10]) (.cond (.slot 10) (.region q46R2 false [4, 5]) .skip)) (.seq (.region q46R3 false [5]) .ret))), [.cell 5 true 33]⟩
/- oriel/size.Set -/
def q55R0 : List AOper := [⟨some 4, none, .box 18 (.slot 0)⟩,
  ⟨some 8, none, .alloc [.int .i64 0, .int .i64 0, .int .i64 0, .int .i64 0, .int .i64 0, .int .i64 0, .int .i64 0, .int .i64 0, .int .i64 0, .int .i64 0, .int .i64 0, .int .i64 0, .int .i64 0, .int .i64 0, .int .i64 0, .int .i64 0, .int .i64 0, .int .i64 0]⟩,
  ⟨some 9, none, .mov (.const (.int .i64 0))⟩]
def q55R1 : List AOper := [⟨some 10, none, .load true 18 (.slot 4)⟩,
  ⟨some 11, none, .call .frz n_size_May [(.slot 10)]⟩,
  ⟨some 12, none, .not (.slot 11)⟩,
  ⟨some 13, none, .mov (.slot 12)⟩,
  ⟨some 14, some (13, false), .mov (.slot 1)⟩,
  ⟨some 15, some (13, false), .call .frz n_size_member [(.slot 14)]⟩,
  ⟨some 16, some (13, false), .not (.slot 15)⟩,
  ⟨some 17, none, .pick (.slot 13) (.const (.bool true)) (.slot 16)⟩,
  ⟨some 18, none, .mov (.slot 17)⟩,
  ⟨some 19, some (18, false), .mov (.slot 2)⟩,
  ⟨some 20, some (18, false), .call .frz n_size_side [(.slot 19)]⟩,
  ⟨some 21, some (18, false), .not (.slot 20)⟩,
  ⟨some 22, none, .pick (.slot 18) (.const (.bool true)) (.slot 21)⟩,
  ⟨some 23, none, .mov (.slot 22)⟩,
  ⟨some 24, some (23, false), .mov (.slot 3)⟩,
  ⟨some 25, some (23, false), .call .frz n_size_side [(.slot 24)]⟩,
  ⟨some 26, some (23, false), .not (.slot 25)⟩,
  ⟨some 27, none, .pick (.slot 23) (.const (.bool true)) (.slot 26)⟩]
def q55R2 : List AOper := [⟨some 28, none, .build [.int .i64 0, .int .i64 0, .int .i64 0, .int .i64 0, .int .i64 0, .int .i64 0, .int .i64 0, .int .i64 0, .int .i64 0, .int .i64 0, .int .i64 0, .int .i64 0, .int .i64 0, .int .i64 0, .int .i64 0, .int .i64 0, .int .i64 0, .int .i64 0] []⟩,
  ⟨none, none, .store true 18 (.slot 8) (.slot 28)⟩,
  ⟨some 9, none, .mov (.const (.int .i64 2))⟩]
def q55R3 : List AOper := [⟨some 29, none, .mov (.slot 1)⟩,
  ⟨some 30, none, .mov (.slot 2)⟩,
  ⟨some 31, none, .mov (.slot 3)⟩,
  ⟨some 32, none, .build [.int .i64 0, .int .i64 0] [(0, 1, (.slot 30)), (1, 1, (.slot 31))]⟩,
  ⟨some 33, none, .idxarr 2 9 (.slot 4) (.slot 29)⟩,
  ⟨none, none, .store true 2 (.slot 33) (.slot 32)⟩]
def q55R4 : List AOper := [⟨some 34, none, .load true 18 (.slot 4)⟩,
  ⟨none, none, .store true 18 (.slot 8) (.slot 34)⟩,
  ⟨some 9, none, .mov (.const (.int .i64 0))⟩]
def c_size_Set : AFn := ⟨(.seq (.region q55R0 false [1, 2, 3, 4, 8]) (.seq (.seq (.region q55R1 false [1, 2, 3, 4, 8, 27]) (.cond (.slot 27) (.seq (.region q55R2 false [8, 9]) .ret) .skip)) (.seq (.region q55R3 false [4, 8]) (.seq (.region q55R4 false [8, 9]) .ret)))), [.cell 8 true 18, .slot 9]⟩
/- oriel/session.does'2 -/
def q47R0 : List AOper := [⟨some 3, none, .box 33 (.slot 0)⟩,
  ⟨some 4, none, .alloc (.data false 2 [] true :: .int .i64 0 :: .data false 1 [] true :: .data false 3 [] true :: .int .i64 0 :: .int .i64 0 :: .int .i64 0 :: .int .i64 0 :: .int .i64 0 :: .int .i64 0 :: .int .i64 0 :: .int .i64 0 :: .int .i64 0 :: .int .i64 0 :: .int .i64 0 :: .int .i64 0 :: .int .i64 0 :: .int .i64 0 :: .int .i64 0 :: .int .i64 0 :: .int .i64 0 :: .int .i64 0 :: .int .i64 0 :: .int .i64 0 :: .int .i64 0 :: .int .i64 0 :: .int .i64 0 :: .int .i64 0 :: .int .i64 0 :: .int .i64 0 :: .int .i64 0 :: .int .i64 0 :: .int .i64 0 :: [])⟩]
def q47R1 : List AOper := [⟨some 6, none, .faddr 4 (.slot 3)⟩,
  ⟨some 7, none, .load true 18 (.slot 6)⟩,
  ⟨some 8, none, .load false 1 (.slot 1)⟩,
  ⟨some 9, none, .faddr 2 (.slot 2)⟩,
  ⟨some 10, none, .load false 1 (.slot 9)⟩,
  ⟨some 11, none, .faddr 3 (.slot 2)⟩,
  ⟨some 12, none, .load false 1 (.slot 11)⟩,
  ⟨some 13, none, .call .frz n_size_Set [(.slot 7), (.slot 8), (.slot 10), (.slot 12)]⟩,
  ⟨some 5, none, .mov (.slot 13)⟩,
  ⟨some 14, none, .extract 0 (.slot 5)⟩,
  ⟨some 15, none, .extract 1 (.slot 5)⟩,
  ⟨some 16, none, .faddr 4 (.slot 3)⟩,
  ⟨none, none, .store true 18 (.slot 16) (.slot 14)⟩]
def q47R2 : List AOper := [⟨some 17, none, .load true 33 (.slot 3)⟩,
  ⟨some 18, none, .call .frz n_session_settled [(.slot 17)]⟩,
  ⟨none, none, .store true 33 (.slot 4) (.slot 18)⟩]
def c_session_does_2 : AFn := ⟨(.seq (.region q47R0 false [1, 2, 3, 4]) (.seq (.region q47R1 false [3, 4]) (.seq (.region q47R2 false [4]) .ret))), [.cell 4 true 33]⟩
/- oriel/token.Place -/
def q90R0 : List AOper := [⟨some 2, none, .box 2 (.slot 0)⟩,
  ⟨some 4, none, .mov (.const (.int .i64 0))⟩]
def q90R1 : List AOper := [⟨some 7, none, .load true 2 (.slot 2)⟩,
  ⟨some 8, none, .call .frz n_token_May [(.slot 7)]⟩,
  ⟨some 9, none, .not (.slot 8)⟩,
  ⟨some 10, none, .mov (.slot 9)⟩,
  ⟨some 11, some (10, false), .mov (.slot 1)⟩,
  ⟨some 12, some (10, false), .call .frz n_token_number [(.slot 11)]⟩,
  ⟨some 13, some (10, false), .not (.slot 12)⟩,
  ⟨some 14, none, .pick (.slot 10) (.const (.bool true)) (.slot 13)⟩,
  ⟨some 6, none, .mov (.slot 14)⟩]
def q90R2 : List AOper := [⟨some 4, none, .mov (.const (.int .i64 (-1)))⟩]
def q90R3 : List AOper := [⟨some 16, none, .faddr 0 (.slot 2)⟩,
  ⟨some 17, none, .load false 1 (.slot 16)⟩,
  ⟨some 18, none, .mov (.slot 1)⟩,
  ⟨some 19, none, .bin .eql (.slot 17) (.slot 18)⟩,
  ⟨some 15, none, .mov (.slot 19)⟩]
def q90R4 : List AOper := [⟨some 4, none, .mov (.const (.int .i64 0))⟩]
def q90R5 : List AOper := [⟨some 20, none, .faddr 1 (.slot 2)⟩,
  ⟨some 21, none, .load false 1 (.slot 20)⟩,
  ⟨some 22, none, .mov (.slot 1)⟩,
  ⟨some 23, none, .call .frz n_slices_Index_int [(.slot 21), (.slot 22)]⟩,
  ⟨some 5, none, .mov (.slot 23)⟩]
def q90R6 : List AOper := [⟨some 24, none, .mov (.slot 5)⟩,
  ⟨some 25, none, .bin .geq (.slot 24) (.const (.int .i64 0))⟩]
def q90R7 : List AOper := [⟨some 26, none, .mov (.slot 5)⟩,
  ⟨some 27, none, .bin .add (.slot 26) (.const (.int .i64 1))⟩,
  ⟨some 4, none, .mov (.slot 27)⟩]
def q90R8 : List AOper := [⟨some 4, none, .mov (.const (.int .i64 (-1)))⟩]
def c_token_Place : AFn := ⟨(.seq (.region q90R0 false [1, 2]) (.seq (.block 0 (.seq (.region q90R1 false [1, 2, 6]) (.cond (.slot 6) (.seq (.region q90R2 false [4]) .ret) (.seq (.region q90R3 false [1, 2, 15]) (.cond (.slot 15) (.seq (.region q90R4 false [4]) .ret) .skip))))) (.seq (.seq (.region q90R5 false [5]) (.seq (.region q90R6 false [5, 25]) (.cond (.slot 25) (.seq (.region q90R7 false [4]) .ret) .skip))) (.seq (.region q90R8 false [4]) .ret)))), [.slot 4]⟩
/- oriel/token.Ask'1 -/
def q83R0 : List AOper := [⟨some 6, none, .load false 1 (.slot 2)⟩,
  ⟨some 7, none, .bin .lss (.slot 6) (.const (.int .i64 0))⟩]
def q83R1 : List AOper := [⟨some 8, none, .mov (.slot 0)⟩,
  ⟨some 9, none, .mov (.slot 0)⟩,
  ⟨some 10, none, .nilchk (.slot 9)⟩,
  ⟨some 11, none, .faddr 0 (.slot 10)⟩,
  ⟨some 12, none, .faddr 1 (.slot 11)⟩,
  ⟨some 13, none, .load false 1 (.slot 12)⟩,
  ⟨some 14, none, .load false 1 (.slot 3)⟩,
  ⟨some 15, none, .mkslice 1 1 [.int .i64 0] [(0, (.slot 14))]⟩,
  ⟨some 16, none, .append 1 8 (.slot 13) (.slot 15)⟩,
  ⟨some 17, none, .nilchk (.slot 8)⟩,
  ⟨some 18, none, .faddr 0 (.slot 17)⟩,
  ⟨some 19, none, .faddr 1 (.slot 18)⟩,
  ⟨none, none, .store false 1 (.slot 19) (.slot 16)⟩]
def q83R2 : List AOper := [⟨some 20, none, .mov (.slot 0)⟩,
  ⟨some 21, none, .nilchk (.slot 20)⟩,
  ⟨some 22, none, .faddr 0 (.slot 21)⟩,
  ⟨some 23, none, .faddr 0 (.slot 22)⟩,
  ⟨some 24, none, .load false 1 (.slot 23)⟩,
  ⟨some 25, none, .bin .eql (.slot 24) (.const (.int .i64 0))⟩]
def q83R3 : List AOper := [⟨some 26, none, .mov (.slot 1)⟩,
  ⟨some 27, none, .callv (.slot 26) []⟩]
def c_token_Ask_1 : AFn := ⟨(.seq (.seq (.region q83R0 false [0, 1, 3, 7]) (.cond (.slot 7) (.region q83R1 true [0, 1]) .skip)) (.seq (.region q83R2 false [1, 25]) (.cond (.slot 25) (.region q83R3 false []) .skip))), []⟩
/- oriel/token.Ask -/
def q82R0 : List AOper := [⟨some 2, none, .box 2 (.slot 0)⟩,
  ⟨some 3, none, .box 1 (.slot 1)⟩,
  ⟨some 4, none, .alloc [.int .i64 0, .data false 1 [] true]⟩,
  ⟨some 5, none, .mov (.const (.int .i64 0))⟩]
def q82R1 : List AOper := [⟨some 7, none, .load true 2 (.slot 2)⟩,
  ⟨some 8, none, .call .frz n_token_May [(.slot 7)]⟩,
  ⟨some 9, none, .not (.slot 8)⟩,
  ⟨some 10, none, .mov (.slot 9)⟩,
  ⟨some 11, some (10, false), .load false 1 (.slot 3)⟩,
  ⟨some 12, some (10, false), .call .frz n_token_number [(.slot 11)]⟩,
  ⟨some 13, some (10, false), .not (.slot 12)⟩,
  ⟨some 14, none, .pick (.slot 10) (.const (.bool true)) (.slot 13)⟩]
def q82R2 : List AOper := [⟨some 15, none, .build [.int .i64 0, .data false 1 [] true] []⟩,
  ⟨none, none, .store true 2 (.slot 4) (.slot 15)⟩,
  ⟨some 5, none, .mov (.const (.int .i64 2))⟩]
def q82R3 : List AOper := [⟨some 16, none, .load true 2 (.slot 2)⟩,
  ⟨some 17, none, .load false 1 (.slot 3)⟩,
  ⟨some 18, none, .call .frz n_token_Place [(.slot 16), (.slot 17)]⟩,
  ⟨some 6, none, .alloc [.int .i64 0]⟩,
  ⟨none, none, .store false 1 (.slot 6) (.slot 18)⟩]
def q82R4 : List AOper := [⟨some 19, none, .load true 2 (.slot 2)⟩,
  ⟨some 20, none, .mkfn (.func n_token_Ask_1) [] [(.slot 6), (.slot 3)]⟩,
  ⟨some 21, none, .call .inl n_token_change [(.slot 19), (.slot 20)]⟩,
  ⟨none, none, .store true 2 (.slot 4) (.slot 21)⟩,
  ⟨some 5, none, .mov (.const (.int .i64 0))⟩]
def c_token_Ask : AFn := ⟨(.seq (.region q82R0 false [2, 3, 4]) (.seq (.seq (.region q82R1 false [2, 3, 4, 14]) (.cond (.slot 14) (.seq (.region q82R2 false [4, 5]) .ret) .skip)) (.seq (.region q82R3 false [2, 3, 4, 6]) (.seq (.region q82R4 false [4, 5]) .ret)))), [.cell 4 true 2, .slot 5]⟩
/- oriel/session.does'3 -/
def q48R0 : List AOper := [⟨some 2, none, .box 33 (.slot 0)⟩,
  ⟨some 3, none, .alloc (.data false 2 [] true :: .int .i64 0 :: .data false 1 [] true :: .data false 3 [] true :: .int .i64 0 :: .int .i64 0 :: .int .i64 0 :: .int .i64 0 :: .int .i64 0 :: .int .i64 0 :: .int .i64 0 :: .int .i64 0 :: .int .i64 0 :: .int .i64 0 :: .int .i64 0 :: .int .i64 0 :: .int .i64 0 :: .int .i64 0 :: .int .i64 0 :: .int .i64 0 :: .int .i64 0 :: .int .i64 0 :: .int .i64 0 :: .int .i64 0 :: .int .i64 0 :: .int .i64 0 :: .int .i64 0 :: .int .i64 0 :: .int .i64 0 :: .int .i64 0 :: .int .i64 0 :: .int .i64 0 :: .int .i64 0 :: [])⟩]
def q48R1 : List AOper := [⟨some 4, none, .load true 33 (.slot 2)⟩,
  ⟨some 5, none, .load false 1 (.slot 1)⟩,
  ⟨some 6, none, .call .frz n_session_writes [(.slot 4), (.slot 5)]⟩]
def q48R2 : List AOper := [⟨some 8, none, .faddr 1 (.slot 2)⟩,
  ⟨some 9, none, .load true 2 (.slot 8)⟩,
  ⟨some 10, none, .load false 1 (.slot 1)⟩,
  ⟨some 11, none, .call .frz n_token_Ask [(.slot 9), (.slot 10)]⟩,
  ⟨some 7, none, .mov (.slot 11)⟩,
  ⟨some 12, none, .extract 0 (.slot 7)⟩,
  ⟨some 13, none, .extract 1 (.slot 7)⟩,
  ⟨some 14, none, .faddr 1 (.slot 2)⟩,
  ⟨none, none, .store true 2 (.slot 14) (.slot 12)⟩]
def q48R3 : List AOper := [⟨some 15, none, .load true 33 (.slot 2)⟩,
  ⟨none, none, .store true 33 (.slot 3) (.slot 15)⟩]
def c_session_does_3 : AFn := ⟨(.seq (.region q48R0 false [1, 2, 3]) (.seq (.seq (.region q48R1 false [1, 2, 3, 6]) (.cond (.slot 6) (.region q48R2 false [2, 3]) .skip)) (.seq (.region q48R3 false [3]) .ret))), [.cell 3 true 33]⟩
/- slices.Delete[[]int,int] -/
def q70R0 : List AOper := [⟨some 6, none, .mov (.const (.data false 1 [] true))⟩]
def q70R1 : List AOper := [⟨some 8, none, .mov (.slot 0)⟩,
  ⟨some 9, none, .mov (.slot 1)⟩,
  ⟨some 10, none, .mov (.slot 2)⟩,
  ⟨some 11, none, .mov (.slot 0)⟩,
  ⟨some 12, none, .len false (.slot 11)⟩,
  ⟨some 13, none, .sl 1 (.slot 8) (some (.slot 9)) (some (.slot 10)) (some (.slot 12))⟩]
def q70R2 : List AOper := [⟨some 14, none, .mov (.slot 1)⟩,
  ⟨some 15, none, .mov (.slot 2)⟩,
  ⟨some 16, none, .bin .eql (.slot 14) (.slot 15)⟩]
def q70R3 : List AOper := [⟨some 17, none, .mov (.slot 0)⟩,
  ⟨some 6, none, .mov (.slot 17)⟩]
def q70R4 : List AOper := [⟨some 18, none, .mov (.slot 0)⟩,
  ⟨some 19, none, .len false (.slot 18)⟩,
  ⟨some 7, none, .mov (.slot 19)⟩]
def q70R5 : List AOper := [⟨some 20, none, .mov (.slot 0)⟩,
  ⟨some 21, none, .mov (.slot 1)⟩,
  ⟨some 22, none, .sl 1 (.slot 20) none (some (.slot 21)) none⟩,
  ⟨some 23, none, .mov (.slot 0)⟩,
  ⟨some 24, none, .mov (.slot 2)⟩,
  ⟨some 25, none, .sl 1 (.slot 23) (some (.slot 24)) none none⟩,
  ⟨some 26, none, .append 1 8 (.slot 22) (.slot 25)⟩,
  ⟨some 0, none, .mov (.slot 26)⟩]
def q70R6 : List AOper := [⟨some 27, none, .mov (.slot 0)⟩,
  ⟨some 28, none, .mov (.slot 0)⟩,
  ⟨some 29, none, .len false (.slot 28)⟩,
  ⟨some 30, none, .mov (.slot 7)⟩,
  ⟨some 31, none, .sl 1 (.slot 27) (some (.slot 29)) (some (.slot 30)) none⟩,
  ⟨none, none, .clear [.int .i64 0] (.slot 31)⟩]
def q70R7 : List AOper := [⟨some 32, none, .mov (.slot 0)⟩,
  ⟨some 6, none, .mov (.slot 32)⟩]
def c_slices_Delete_int : AFn := ⟨(.seq (.region q70R0 false [0, 1, 2]) (.seq (.region q70R1 false [0, 1, 2]) (.seq (.seq (.region q70R2 false [0, 1, 2, 16]) (.cond (.slot 16) (.seq (.region q70R3 false [6]) .ret) .skip)) (.seq (.region q70R4 false [0, 1, 2, 7]) (.seq (.region q70R5 true [0, 7]) (.seq (.region q70R6 false [0]) (.seq (.region q70R7 false [6]) .ret))))))), [.slot 6]⟩
/- oriel/token.Free'1 -/
def q85R0 : List AOper := [⟨some 6, none, .load false 1 (.slot 2)⟩,
  ⟨some 7, none, .bin .eql (.slot 6) (.const (.int .i64 0))⟩,
  ⟨some 5, none, .mov (.slot 7)⟩]
def q85R1 : List AOper := [⟨some 8, none, .mov (.slot 1)⟩,
  ⟨some 9, none, .callv (.slot 8) []⟩]
def q85R2 : List AOper := [⟨some 11, none, .load false 1 (.slot 2)⟩,
  ⟨some 12, none, .bin .gtr (.slot 11) (.const (.int .i64 0))⟩,
  ⟨some 10, none, .mov (.slot 12)⟩]
def q85R3 : List AOper := [⟨some 13, none, .mov (.slot 0)⟩,
  ⟨some 14, none, .mov (.slot 0)⟩,
  ⟨some 15, none, .nilchk (.slot 14)⟩,
  ⟨some 16, none, .faddr 0 (.slot 15)⟩,
  ⟨some 17, none, .faddr 1 (.slot 16)⟩,
  ⟨some 18, none, .load false 1 (.slot 17)⟩,
  ⟨some 19, none, .load false 1 (.slot 2)⟩,
  ⟨some 20, none, .bin .sub (.slot 19) (.const (.int .i64 1))⟩,
  ⟨some 21, none, .load false 1 (.slot 2)⟩,
  ⟨some 22, none, .call .inl n_slices_Delete_int [(.slot 18), (.slot 20), (.slot 21)]⟩,
  ⟨some 23, none, .nilchk (.slot 13)⟩,
  ⟨some 24, none, .faddr 0 (.slot 23)⟩,
  ⟨some 25, none, .faddr 1 (.slot 24)⟩,
  ⟨none, none, .store false 1 (.slot 25) (.slot 22)⟩]
def c_token_Free_1 : AFn := ⟨(.block 0 (.seq (.region q85R0 false [0, 1, 2, 5]) (.cond (.slot 5) (.region q85R1 false []) (.seq (.region q85R2 false [0, 2, 10]) (.cond (.slot 10) (.region q85R3 true []) .skip))))), []⟩
/- oriel/token.Free -/
def q84R0 : List AOper := [⟨some 2, none, .box 2 (.slot 0)⟩,
  ⟨some 4, none, .alloc [.int .i64 0, .data false 1 [] true]⟩,
  ⟨some 5, none, .mov (.const (.int .i64 0))⟩]
def q84R1 : List AOper := [⟨some 7, none, .load true 2 (.slot 2)⟩,
  ⟨some 8, none, .call .frz n_token_May [(.slot 7)]⟩,
  ⟨some 9, none, .not (.slot 8)⟩,
  ⟨some 10, none, .mov (.slot 9)⟩,
  ⟨some 11, some (10, false), .mov (.slot 1)⟩,
  ⟨some 12, some (10, false), .call .frz n_token_number [(.slot 11)]⟩,
  ⟨some 13, some (10, false), .not (.slot 12)⟩,
  ⟨some 14, none, .pick (.slot 10) (.const (.bool true)) (.slot 13)⟩]
def q84R2 : List AOper := [⟨some 15, none, .build [.int .i64 0, .data false 1 [] true] []⟩,
  ⟨none, none, .store true 2 (.slot 4) (.slot 15)⟩,
  ⟨some 5, none, .mov (.const (.int .i64 2))⟩]
def q84R3 : List AOper := [⟨some 16, none, .load true 2 (.slot 2)⟩,
  ⟨some 17, none, .mov (.slot 1)⟩,
  ⟨some 18, none, .call .frz n_token_Place [(.slot 16), (.slot 17)]⟩,
  ⟨some 6, none, .alloc [.int .i64 0]⟩,
  ⟨none, none, .store false 1 (.slot 6) (.slot 18)⟩]
def q84R4 : List AOper := [⟨some 19, none, .load true 2 (.slot 2)⟩,
  ⟨some 20, none, .mkfn (.func n_token_Free_1) [] [(.slot 6)]⟩,
  ⟨some 21, none, .call .inl n_token_change [(.slot 19), (.slot 20)]⟩,
  ⟨none, none, .store true 2 (.slot 4) (.slot 21)⟩,
  ⟨some 5, none, .mov (.const (.int .i64 0))⟩]
def c_token_Free : AFn := ⟨(.seq (.region q84R0 false [1, 2, 4]) (.seq (.seq (.region q84R1 false [1, 2, 4, 14]) (.cond (.slot 14) (.seq (.region q84R2 false [4, 5]) .ret) .skip)) (.seq (.region q84R3 false [2, 4, 6]) (.seq (.region q84R4 false [4, 5]) .ret)))), [.cell 4 true 2, .slot 5]⟩
/- oriel/session.does'4 -/
def q49R0 : List AOper := [⟨some 2, none, .box 33 (.slot 0)⟩,
  ⟨some 3, none, .alloc (.data false 2 [] true :: .int .i64 0 :: .data false 1 [] true :: .data false 3 [] true :: .int .i64 0 :: .int .i64 0 :: .int .i64 0 :: .int .i64 0 :: .int .i64 0 :: .int .i64 0 :: .int .i64 0 :: .int .i64 0 :: .int .i64 0 :: .int .i64 0 :: .int .i64 0 :: .int .i64 0 :: .int .i64 0 :: .int .i64 0 :: .int .i64 0 :: .int .i64 0 :: .int .i64 0 :: .int .i64 0 :: .int .i64 0 :: .int .i64 0 :: .int .i64 0 :: .int .i64 0 :: .int .i64 0 :: .int .i64 0 :: .int .i64 0 :: .int .i64 0 :: .int .i64 0 :: .int .i64 0 :: .int .i64 0 :: [])⟩]
def q49R1 : List AOper := [⟨some 5, none, .faddr 1 (.slot 2)⟩,
  ⟨some 6, none, .load true 2 (.slot 5)⟩,
  ⟨some 7, none, .load false 1 (.slot 1)⟩,
  ⟨some 8, none, .call .frz n_token_Free [(.slot 6), (.slot 7)]⟩,
  ⟨some 4, none, .mov (.slot 8)⟩,
  ⟨some 9, none, .extract 0 (.slot 4)⟩,
  ⟨some 10, none, .extract 1 (.slot 4)⟩,
  ⟨some 11, none, .faddr 1 (.slot 2)⟩,
  ⟨none, none, .store true 2 (.slot 11) (.slot 9)⟩]
def q49R2 : List AOper := [⟨some 12, none, .load true 33 (.slot 2)⟩,
  ⟨none, none, .store true 33 (.slot 3) (.slot 12)⟩]
def c_session_does_4 : AFn := ⟨(.seq (.region q49R0 false [1, 2, 3]) (.seq (.region q49R1 false [2, 3]) (.seq (.region q49R2 false [3]) .ret))), [.cell 3 true 33]⟩
/- oriel/session.does -/
def q45R0 : List AOper := [⟨some 3, none, .box 1 (.slot 0)⟩,
  ⟨some 4, none, .box 1 (.slot 1)⟩,
  ⟨some 5, none, .box 4 (.slot 2)⟩,
  ⟨some 6, none, .mov (.const .nilfn)⟩]
def q45R1 : List AOper := [⟨some 7, none, .load true 4 (.slot 5)⟩,
  ⟨some 8, none, .mkslice 4 1 [.int .i64 0, .data false 1 [] true, .int .i64 0, .int .i64 0] [(0, (.slot 7))]⟩,
  ⟨some 9, none, .build [.int .i64 0, .data false 4 [] true] [(1, 1, (.slot 8))]⟩,
  ⟨some 10, none, .call .inl n_input_May [(.slot 9)]⟩,
  ⟨some 11, none, .not (.slot 10)⟩]
def q45R2 : List AOper := [⟨some 6, none, .mov (.const .nilfn)⟩]
def q45R3 : List AOper := [⟨some 12, none, .faddr 0 (.slot 5)⟩,
  ⟨some 13, none, .load false 1 (.slot 12)⟩]
def q45R4 : List AOper := [⟨some 15, none, .bin .eql (.slot 13) (.const (.int .i64 1))⟩,
  ⟨some 14, none, .mov (.slot 15)⟩]
def q45R5 : List AOper := [⟨some 16, none, .mkfn (.func n_session_does_1) [] [(.slot 3), (.slot 4), (.slot 5)]⟩,
  ⟨some 6, none, .mov (.slot 16)⟩]
def q45R6 : List AOper := [⟨some 18, none, .bin .eql (.slot 13) (.const (.int .i64 2))⟩,
  ⟨some 17, none, .mov (.slot 18)⟩]
def q45R7 : List AOper := [⟨some 19, none, .mkfn (.func n_session_does_2) [] [(.slot 3), (.slot 5)]⟩,
  ⟨some 6, none, .mov (.slot 19)⟩]
def q45R8 : List AOper := [⟨some 21, none, .bin .eql (.slot 13) (.const (.int .i64 3))⟩,
  ⟨some 20, none, .mov (.slot 21)⟩]
def q45R9 : List AOper := [⟨some 22, none, .mkfn (.func n_session_does_3) [] [(.slot 3)]⟩,
  ⟨some 6, none, .mov (.slot 22)⟩]
def q45R10 : List AOper := [⟨some 23, none, .mkfn (.func n_session_does_4) [] [(.slot 3)]⟩,
  ⟨some 6, none, .mov (.slot 23)⟩]
def c_session_does : AFn := ⟨(.seq (.region q45R0 false [3, 4, 5]) (.seq (.seq (.region q45R1 false [3, 4, 5, 11]) (.cond (.slot 11) (.seq (.region q45R2 false [6]) .ret) .skip)) (.seq (.seq (.region q45R3 false [3, 4, 5, 13]) (.block 0 (.seq (.region q45R4 false [3, 4, 5, 13, 14]) (.cond (.slot 14) (.seq (.region q45R5 false [6]) .ret) (.seq (.region q45R6 false [3, 5, 13, 17]) (.cond (.slot 17) (.seq (.region q45R7 false [6]) .ret) (.seq (.region q45R8 false [3, 20]) (.cond (.slot 20) (.seq (.region q45R9 false [6]) .ret) .skip)))))))) (.seq (.region q45R10 false [6]) .ret)))), [.slot 6]⟩
/- oriel/session.Take -/
def q42R0 : List AOper := [⟨some 4, none, .box 33 (.slot 0)⟩,
  ⟨some 7, none, .box 4 (.slot 3)⟩,
  ⟨some 8, none, .alloc (.data false 2 [] true :: .int .i64 0 :: .data false 1 [] true :: .data false 3 [] true :: .int .i64 0 :: .int .i64 0 :: .int .i64 0 :: .int .i64 0 :: .int .i64 0 :: .int .i64 0 :: .int .i64 0 :: .int .i64 0 :: .int .i64 0 :: .int .i64 0 :: .int .i64 0 :: .int .i64 0 :: .int .i64 0 :: .int .i64 0 :: .int .i64 0 :: .int .i64 0 :: .int .i64 0 :: .int .i64 0 :: .int .i64 0 :: .int .i64 0 :: .int .i64 0 :: .int .i64 0 :: .int .i64 0 :: .int .i64 0 :: .int .i64 0 :: .int .i64 0 :: .int .i64 0 :: .int .i64 0 :: .int .i64 0 :: [])⟩,
  ⟨some 9, none, .mov (.const (.int .i64 0))⟩]
def q42R1 : List AOper := [⟨some 13, none, .load true 33 (.slot 4)⟩,
  ⟨some 14, none, .call .frz n_session_May [(.slot 13)]⟩,
  ⟨some 15, none, .not (.slot 14)⟩]
def q42R2 : List AOper := [⟨some 16, none, .build (.data false 2 [] true :: .int .i64 0 :: .data false 1 [] true :: .data false 3 [] true :: .int .i64 0 :: .int .i64 0 :: .int .i64 0 :: .int .i64 0 :: .int .i64 0 :: .int .i64 0 :: .int .i64 0 :: .int .i64 0 :: .int .i64 0 :: .int .i64 0 :: .int .i64 0 :: .int .i64 0 :: .int .i64 0 :: .int .i64 0 :: .int .i64 0 :: .int .i64 0 :: .int .i64 0 :: .int .i64 0 :: .int .i64 0 :: .int .i64 0 :: .int .i64 0 :: .int .i64 0 :: .int .i64 0 :: .int .i64 0 :: .int .i64 0 :: .int .i64 0 :: .int .i64 0 :: .int .i64 0 :: .int .i64 0 :: []) []⟩,
  ⟨none, none, .store true 33 (.slot 8) (.slot 16)⟩,
  ⟨some 9, none, .mov (.const (.int .i64 2))⟩]
def q42R3 : List AOper := [⟨some 18, none, .faddr 0 (.slot 4)⟩,
  ⟨some 19, none, .load false 1 (.slot 18)⟩,
  ⟨some 20, none, .mov (.slot 1)⟩,
  ⟨some 21, none, .call .frz n_roster_Find [(.slot 19), (.slot 20)]⟩,
  ⟨some 17, none, .mov (.slot 21)⟩,
  ⟨some 22, none, .extract 0 (.slot 17)⟩,
  ⟨some 23, none, .extract 1 (.slot 17)⟩,
  ⟨some 10, none, .alloc [.int .i64 0, .int .i64 0]⟩,
  ⟨none, none, .store true 2 (.slot 10) (.slot 22)⟩,
  ⟨some 11, none, .mov (.slot 23)⟩]
def q42R4 : List AOper := [⟨some 24, none, .mov (.slot 11)⟩,
  ⟨some 25, none, .not (.slot 24)⟩]
def q42R5 : List AOper := [⟨some 26, none, .build (.data false 2 [] true :: .int .i64 0 :: .data false 1 [] true :: .data false 3 [] true :: .int .i64 0 :: .int .i64 0 :: .int .i64 0 :: .int .i64 0 :: .int .i64 0 :: .int .i64 0 :: .int .i64 0 :: .int .i64 0 :: .int .i64 0 :: .int .i64 0 :: .int .i64 0 :: .int .i64 0 :: .int .i64 0 :: .int .i64 0 :: .int .i64 0 :: .int .i64 0 :: .int .i64 0 :: .int .i64 0 :: .int .i64 0 :: .int .i64 0 :: .int .i64 0 :: .int .i64 0 :: .int .i64 0 :: .int .i64 0 :: .int .i64 0 :: .int .i64 0 :: .int .i64 0 :: .int .i64 0 :: .int .i64 0 :: []) []⟩,
  ⟨none, none, .store true 33 (.slot 8) (.slot 26)⟩,
  ⟨some 9, none, .mov (.const (.int .i64 6))⟩]
def q42R6 : List AOper := [⟨some 27, none, .mov (.slot 1)⟩,
  ⟨some 28, none, .faddr 24 (.slot 4)⟩,
  ⟨some 29, none, .idxarr 1 9 (.slot 28) (.slot 27)⟩,
  ⟨some 30, none, .load false 1 (.slot 29)⟩,
  ⟨some 31, none, .bin .geq (.slot 30) (.const (.int .i64 1073741824))⟩,
  ⟨some 32, none, .mov (.slot 31)⟩,
  ⟨some 33, some (32, false), .mov (.slot 2)⟩,
  ⟨some 34, some (32, false), .mov (.slot 1)⟩,
  ⟨some 35, some (32, false), .faddr 24 (.slot 4)⟩,
  ⟨some 36, some (32, false), .idxarr 1 9 (.slot 35) (.slot 34)⟩,
  ⟨some 37, some (32, false), .load false 1 (.slot 36)⟩,
  ⟨some 38, some (32, false), .bin .add (.slot 37) (.const (.int .i64 1))⟩,
  ⟨some 39, some (32, false), .bin .neq (.slot 33) (.slot 38)⟩,
  ⟨some 40, none, .pick (.slot 32) (.const (.bool true)) (.slot 39)⟩]
def q42R7 : List AOper := [⟨some 41, none, .build (.data false 2 [] true :: .int .i64 0 :: .data false 1 [] true :: .data false 3 [] true :: .int .i64 0 :: .int .i64 0 :: .int .i64 0 :: .int .i64 0 :: .int .i64 0 :: .int .i64 0 :: .int .i64 0 :: .int .i64 0 :: .int .i64 0 :: .int .i64 0 :: .int .i64 0 :: .int .i64 0 :: .int .i64 0 :: .int .i64 0 :: .int .i64 0 :: .int .i64 0 :: .int .i64 0 :: .int .i64 0 :: .int .i64 0 :: .int .i64 0 :: .int .i64 0 :: .int .i64 0 :: .int .i64 0 :: .int .i64 0 :: .int .i64 0 :: .int .i64 0 :: .int .i64 0 :: .int .i64 0 :: .int .i64 0 :: []) []⟩,
  ⟨none, none, .store true 33 (.slot 8) (.slot 41)⟩,
  ⟨some 9, none, .mov (.const (.int .i64 300))⟩]
def q42R8 : List AOper := [⟨some 42, none, .mov (.slot 1)⟩,
  ⟨some 43, none, .mov (.slot 2)⟩,
  ⟨some 44, none, .load true 4 (.slot 7)⟩,
  ⟨some 45, none, .call .inl n_session_does [(.slot 42), (.slot 43), (.slot 44)]⟩,
  ⟨some 12, none, .mov (.slot 45)⟩]
def q42R9 : List AOper := [⟨some 46, none, .mov (.slot 12)⟩,
  ⟨some 47, none, .isnil .kf false (.slot 46)⟩]
def q42R10 : List AOper := [⟨some 48, none, .build (.data false 2 [] true :: .int .i64 0 :: .data false 1 [] true :: .data false 3 [] true :: .int .i64 0 :: .int .i64 0 :: .int .i64 0 :: .int .i64 0 :: .int .i64 0 :: .int .i64 0 :: .int .i64 0 :: .int .i64 0 :: .int .i64 0 :: .int .i64 0 :: .int .i64 0 :: .int .i64 0 :: .int .i64 0 :: .int .i64 0 :: .int .i64 0 :: .int .i64 0 :: .int .i64 0 :: .int .i64 0 :: .int .i64 0 :: .int .i64 0 :: .int .i64 0 :: .int .i64 0 :: .int .i64 0 :: .int .i64 0 :: .int .i64 0 :: .int .i64 0 :: .int .i64 0 :: .int .i64 0 :: .int .i64 0 :: []) []⟩,
  ⟨none, none, .store true 33 (.slot 8) (.slot 48)⟩,
  ⟨some 9, none, .mov (.const (.int .i64 2))⟩]
def q42R11 : List AOper := [⟨some 49, none, .load true 33 (.slot 4)⟩,
  ⟨some 50, none, .call .frz n_session_copied [(.slot 49)]⟩,
  ⟨none, none, .store true 33 (.slot 4) (.slot 50)⟩]
def q42R12 : List AOper := [⟨some 51, none, .mov (.slot 1)⟩,
  ⟨some 52, none, .mov (.slot 2)⟩,
  ⟨some 53, none, .faddr 24 (.slot 4)⟩,
  ⟨some 54, none, .idxarr 1 9 (.slot 53) (.slot 51)⟩,
  ⟨none, none, .store false 1 (.slot 54) (.slot 52)⟩]
def q42R13 : List AOper := [⟨some 55, none, .mov (.slot 12)⟩,
  ⟨some 56, none, .load true 33 (.slot 4)⟩,
  ⟨some 57, none, .callv (.slot 55) [(.slot 56)]⟩,
  ⟨none, none, .store true 33 (.slot 8) (.slot 57)⟩,
  ⟨some 9, none, .mov (.const (.int .i64 0))⟩]
def c_session_Take : AFn := ⟨(.seq (.region q42R0 false [1, 2, 4, 7, 8]) (.seq (.seq (.region q42R1 false [1, 2, 4, 7, 8, 15]) (.cond (.slot 15) (.seq (.region q42R2 false [8, 9]) .ret) .skip)) (.seq (.seq (.region q42R3 false [1, 2, 4, 7, 8, 11]) (.seq (.region q42R4 false [1, 2, 4, 7, 8, 25]) (.cond (.slot 25) (.seq (.region q42R5 false [8, 9]) .ret) .skip))) (.seq (.seq (.region q42R6 false [1, 2, 4, 7, 8, 40]) (.cond (.slot 40) (.seq (.region q42R7 false [8, 9]) .ret) .skip)) (.seq (.region q42R8 false [1, 2, 4, 8, 12]) (.seq (.seq (.region q42R9 false [1, 2, 4, 8, 12, 47]) (.cond (.slot 47) (.seq (.region q42R10 false [8, 9]) .ret) .skip)) (.seq (.region q42R11 false [1, 2, 4, 8, 12]) (.seq (.region q42R12 false [4, 8, 12]) (.seq (.region q42R13 false [8, 9]) .ret))))))))), [.cell 8 true 33, .slot 9]⟩
/- oriel/session.Write -/
def q43R0 : List AOper := [⟨some 2, none, .box 33 (.slot 0)⟩,
  ⟨some 4, none, .alloc (.data false 2 [] true :: .int .i64 0 :: .data false 1 [] true :: .data false 3 [] true :: .int .i64 0 :: .int .i64 0 :: .int .i64 0 :: .int .i64 0 :: .int .i64 0 :: .int .i64 0 :: .int .i64 0 :: .int .i64 0 :: .int .i64 0 :: .int .i64 0 :: .int .i64 0 :: .int .i64 0 :: .int .i64 0 :: .int .i64 0 :: .int .i64 0 :: .int .i64 0 :: .int .i64 0 :: .int .i64 0 :: .int .i64 0 :: .int .i64 0 :: .int .i64 0 :: .int .i64 0 :: .int .i64 0 :: .int .i64 0 :: .int .i64 0 :: .int .i64 0 :: .int .i64 0 :: .int .i64 0 :: .int .i64 0 :: [])⟩,
  ⟨some 5, none, .mov (.const (.data false 3 [] true))⟩]
def q43R1 : List AOper := [⟨some 7, none, .load true 33 (.slot 2)⟩,
  ⟨some 8, none, .call .frz n_session_May [(.slot 7)]⟩,
  ⟨some 9, none, .not (.slot 8)⟩]
def q43R2 : List AOper := [⟨some 10, none, .build (.data false 2 [] true :: .int .i64 0 :: .data false 1 [] true :: .data false 3 [] true :: .int .i64 0 :: .int .i64 0 :: .int .i64 0 :: .int .i64 0 :: .int .i64 0 :: .int .i64 0 :: .int .i64 0 :: .int .i64 0 :: .int .i64 0 :: .int .i64 0 :: .int .i64 0 :: .int .i64 0 :: .int .i64 0 :: .int .i64 0 :: .int .i64 0 :: .int .i64 0 :: .int .i64 0 :: .int .i64 0 :: .int .i64 0 :: .int .i64 0 :: .int .i64 0 :: .int .i64 0 :: .int .i64 0 :: .int .i64 0 :: .int .i64 0 :: .int .i64 0 :: .int .i64 0 :: .int .i64 0 :: .int .i64 0 :: []) []⟩,
  ⟨none, none, .store true 33 (.slot 4) (.slot 10)⟩,
  ⟨some 5, none, .mov (.const (.data false 3 [] true))⟩]
def q43R3 : List AOper := [⟨some 11, none, .load true 33 (.slot 2)⟩,
  ⟨some 12, none, .call .frz n_session_copied [(.slot 11)]⟩,
  ⟨none, none, .store true 33 (.slot 2) (.slot 12)⟩]
def q43R4 : List AOper := [⟨some 6, none, .mov (.const (.data false 3 [] true))⟩]
def q43R5 : List AOper := [⟨some 14, none, .faddr 3 (.slot 2)⟩,
  ⟨some 15, none, .load false 1 (.slot 14)⟩,
  ⟨some 16, none, .mov (.slot 1)⟩,
  ⟨some 17, none, .call .frz n_merge_Pop [(.slot 15), (.slot 16)]⟩,
  ⟨some 13, none, .mov (.slot 17)⟩,
  ⟨some 18, none, .extract 0 (.slot 13)⟩,
  ⟨some 19, none, .extract 1 (.slot 13)⟩,
  ⟨some 20, none, .faddr 3 (.slot 2)⟩,
  ⟨none, none, .store false 1 (.slot 20) (.slot 18)⟩,
  ⟨some 6, none, .mov (.slot 19)⟩]
def q43R6 : List AOper := [⟨some 21, none, .load true 33 (.slot 2)⟩,
  ⟨some 22, none, .mov (.slot 6)⟩,
  ⟨none, none, .store true 33 (.slot 4) (.slot 21)⟩,
  ⟨some 5, none, .mov (.slot 22)⟩]
def c_session_Write : AFn := ⟨(.seq (.region q43R0 false [1, 2, 4]) (.seq (.seq (.region q43R1 false [1, 2, 4, 9]) (.cond (.slot 9) (.seq (.region q43R2 false [4, 5]) .ret) .skip)) (.seq (.region q43R3 false [1, 2, 4]) (.seq (.region q43R4 false [1, 2, 4]) (.seq (.region q43R5 false [2, 4, 6]) (.seq (.region q43R6 false [4, 5]) .ret)))))), [.cell 4 true 33, .slot 5]⟩
/- oriel/oriellaw30.known -/
def q11R0 : List AOper := [⟨some 0, none, .mov (.const (.bool false))⟩]
def q11R1 : List AOper := [⟨some 19, none, .build [.int .i64 0, .data false 1 [] true, .int .i64 0, .int .i64 0] [(0, 1, (.const (.int .i64 3)))]⟩,
  ⟨some 1, none, .alloc [.int .i64 0, .data false 1 [] true, .int .i64 0, .int .i64 0]⟩,
  ⟨none, none, .store true 4 (.slot 1) (.slot 19)⟩]
def q11R2 : List AOper := [⟨some 21, none, .call .frz n_session_First []⟩,
  ⟨some 22, none, .call .frz n_session_Join [(.slot 21), (.const (.int .i64 3)), (.const (.int .i64 2))]⟩,
  ⟨some 20, none, .mov (.slot 22)⟩,
  ⟨some 23, none, .extract 0 (.slot 20)⟩,
  ⟨some 24, none, .extract 1 (.slot 20)⟩,
  ⟨some 2, none, .alloc (.data false 2 [] true :: .int .i64 0 :: .data false 1 [] true :: .data false 3 [] true :: .int .i64 0 :: .int .i64 0 :: .int .i64 0 :: .int .i64 0 :: .int .i64 0 :: .int .i64 0 :: .int .i64 0 :: .int .i64 0 :: .int .i64 0 :: .int .i64 0 :: .int .i64 0 :: .int .i64 0 :: .int .i64 0 :: .int .i64 0 :: .int .i64 0 :: .int .i64 0 :: .int .i64 0 :: .int .i64 0 :: .int .i64 0 :: .int .i64 0 :: .int .i64 0 :: .int .i64 0 :: .int .i64 0 :: .int .i64 0 :: .int .i64 0 :: .int .i64 0 :: .int .i64 0 :: .int .i64 0 :: .int .i64 0 :: [])⟩,
  ⟨none, none, .store true 33 (.slot 2) (.slot 23)⟩,
  ⟨some 3, none, .mov (.slot 24)⟩]
def q11R3 : List AOper := [⟨some 26, none, .load true 33 (.slot 2)⟩,
  ⟨some 27, none, .load true 4 (.slot 1)⟩,
  ⟨some 28, none, .call .frz n_session_Take [(.slot 26), (.const (.int .i64 3)), (.const (.int .i64 1)), (.slot 27)]⟩,
  ⟨some 25, none, .mov (.slot 28)⟩,
  ⟨some 29, none, .extract 0 (.slot 25)⟩,
  ⟨some 30, none, .extract 1 (.slot 25)⟩,
  ⟨none, none, .store true 33 (.slot 2) (.slot 29)⟩,
  ⟨some 4, none, .mov (.slot 30)⟩]
def q11R4 : List AOper := [⟨some 32, none, .load true 33 (.slot 2)⟩,
  ⟨some 33, none, .mkslice 1 2 [.int .u8 0] [(0, (.const (.int .u8 97))), (1, (.const (.int .u8 98)))]⟩,
  ⟨some 34, none, .mark (.slot 33)⟩,
  ⟨some 35, none, .build [.int .i64 0, .data false 1 [] true, .int .i64 0, .int .i64 0] [(0, 1, (.const (.int .i64 1))), (1, 1, (.slot 34))]⟩,
  ⟨some 36, none, .call .frz n_session_Take [(.slot 32), (.const (.int .i64 3)), (.const (.int .i64 2)), (.slot 35)]⟩,
  ⟨some 31, none, .mov (.slot 36)⟩,
  ⟨some 37, none, .extract 0 (.slot 31)⟩,
  ⟨some 38, none, .extract 1 (.slot 31)⟩,
  ⟨none, none, .store true 33 (.slot 2) (.slot 37)⟩,
  ⟨some 5, none, .mov (.slot 38)⟩]
def q11R5 : List AOper := [⟨some 40, none, .load true 33 (.slot 2)⟩,
  ⟨some 41, none, .call .frz n_session_Join [(.slot 40), (.const (.int .i64 5)), (.const (.int .i64 2))]⟩,
  ⟨some 39, none, .mov (.slot 41)⟩,
  ⟨some 42, none, .extract 0 (.slot 39)⟩,
  ⟨some 43, none, .extract 1 (.slot 39)⟩,
  ⟨none, none, .store true 33 (.slot 2) (.slot 42)⟩,
  ⟨some 6, none, .mov (.slot 43)⟩]
def q11R6 : List AOper := [⟨some 45, none, .load true 33 (.slot 2)⟩,
  ⟨some 46, none, .mkslice 1 1 [.int .u8 0] [(0, (.const (.int .u8 120)))]⟩,
  ⟨some 47, none, .mark (.slot 46)⟩,
  ⟨some 48, none, .build [.int .i64 0, .data false 1 [] true, .int .i64 0, .int .i64 0] [(0, 1, (.const (.int .i64 1))), (1, 1, (.slot 47))]⟩,
  ⟨some 49, none, .call .frz n_session_Take [(.slot 45), (.const (.int .i64 5)), (.const (.int .i64 1)), (.slot 48)]⟩,
  ⟨some 44, none, .mov (.slot 49)⟩,
  ⟨some 50, none, .extract 0 (.slot 44)⟩,
  ⟨some 51, none, .extract 1 (.slot 44)⟩,
  ⟨none, none, .store true 33 (.slot 2) (.slot 50)⟩,
  ⟨some 7, none, .mov (.slot 51)⟩]
def q11R7 : List AOper := [⟨some 53, none, .load true 33 (.slot 2)⟩,
  ⟨some 54, none, .load true 4 (.slot 1)⟩,
  ⟨some 55, none, .call .frz n_session_Take [(.slot 53), (.const (.int .i64 5)), (.const (.int .i64 1)), (.slot 54)]⟩,
  ⟨some 52, none, .mov (.slot 55)⟩,
  ⟨some 56, none, .extract 0 (.slot 52)⟩,
  ⟨some 57, none, .extract 1 (.slot 52)⟩,
  ⟨some 8, none, .alloc (.data false 2 [] true :: .int .i64 0 :: .data false 1 [] true :: .data false 3 [] true :: .int .i64 0 :: .int .i64 0 :: .int .i64 0 :: .int .i64 0 :: .int .i64 0 :: .int .i64 0 :: .int .i64 0 :: .int .i64 0 :: .int .i64 0 :: .int .i64 0 :: .int .i64 0 :: .int .i64 0 :: .int .i64 0 :: .int .i64 0 :: .int .i64 0 :: .int .i64 0 :: .int .i64 0 :: .int .i64 0 :: .int .i64 0 :: .int .i64 0 :: .int .i64 0 :: .int .i64 0 :: .int .i64 0 :: .int .i64 0 :: .int .i64 0 :: .int .i64 0 :: .int .i64 0 :: .int .i64 0 :: .int .i64 0 :: [])⟩,
  ⟨none, none, .store true 33 (.slot 8) (.slot 56)⟩,
  ⟨some 9, none, .mov (.slot 57)⟩]
def q11R8 : List AOper := [⟨some 59, none, .load true 33 (.slot 2)⟩,
  ⟨some 60, none, .load true 4 (.slot 1)⟩,
  ⟨some 61, none, .call .frz n_session_Take [(.slot 59), (.const (.int .i64 9)), (.const (.int .i64 1)), (.slot 60)]⟩,
  ⟨some 58, none, .mov (.slot 61)⟩,
  ⟨some 62, none, .extract 0 (.slot 58)⟩,
  ⟨some 63, none, .extract 1 (.slot 58)⟩,
  ⟨some 10, none, .alloc (.data false 2 [] true :: .int .i64 0 :: .data false 1 [] true :: .data false 3 [] true :: .int .i64 0 :: .int .i64 0 :: .int .i64 0 :: .int .i64 0 :: .int .i64 0 :: .int .i64 0 :: .int .i64 0 :: .int .i64 0 :: .int .i64 0 :: .int .i64 0 :: .int .i64 0 :: .int .i64 0 :: .int .i64 0 :: .int .i64 0 :: .int .i64 0 :: .int .i64 0 :: .int .i64 0 :: .int .i64 0 :: .int .i64 0 :: .int .i64 0 :: .int .i64 0 :: .int .i64 0 :: .int .i64 0 :: .int .i64 0 :: .int .i64 0 :: .int .i64 0 :: .int .i64 0 :: .int .i64 0 :: .int .i64 0 :: [])⟩,
  ⟨none, none, .store true 33 (.slot 10) (.slot 62)⟩,
  ⟨some 11, none, .mov (.slot 63)⟩]
def q11R9 : List AOper := [⟨some 65, none, .load true 33 (.slot 2)⟩,
  ⟨some 66, none, .load true 4 (.slot 1)⟩,
  ⟨some 67, none, .call .frz n_session_Take [(.slot 65), (.const (.int .i64 5)), (.const (.int .i64 2)), (.slot 66)]⟩,
  ⟨some 64, none, .mov (.slot 67)⟩,
  ⟨some 68, none, .extract 0 (.slot 64)⟩,
  ⟨some 69, none, .extract 1 (.slot 64)⟩,
  ⟨none, none, .store true 33 (.slot 2) (.slot 68)⟩,
  ⟨some 12, none, .mov (.slot 69)⟩]
def q11R10 : List AOper := [⟨some 71, none, .load true 33 (.slot 2)⟩,
  ⟨some 72, none, .build [.int .i64 0, .data false 1 [] true, .int .i64 0, .int .i64 0] [(0, 1, (.const (.int .i64 2))), (2, 1, (.const (.int .i64 10))), (3, 1, (.const (.int .i64 20)))]⟩,
  ⟨some 73, none, .call .frz n_session_Take [(.slot 71), (.const (.int .i64 3)), (.const (.int .i64 3)), (.slot 72)]⟩,
  ⟨some 70, none, .mov (.slot 73)⟩,
  ⟨some 74, none, .extract 0 (.slot 70)⟩,
  ⟨some 75, none, .extract 1 (.slot 70)⟩,
  ⟨none, none, .store true 33 (.slot 2) (.slot 74)⟩,
  ⟨some 13, none, .mov (.slot 75)⟩]
def q11R11 : List AOper := [⟨some 77, none, .load true 33 (.slot 2)⟩,
  ⟨some 78, none, .call .frz n_session_Change [(.slot 77), (.const (.int .i64 3)), (.const (.int .i64 1))]⟩,
  ⟨some 76, none, .mov (.slot 78)⟩,
  ⟨some 79, none, .extract 0 (.slot 76)⟩,
  ⟨some 80, none, .extract 1 (.slot 76)⟩,
  ⟨none, none, .store true 33 (.slot 2) (.slot 79)⟩,
  ⟨some 14, none, .mov (.slot 80)⟩]
def q11R12 : List AOper := [⟨some 82, none, .load true 33 (.slot 2)⟩,
  ⟨some 83, none, .call .frz n_session_Write [(.slot 82), (.const (.int .i64 5))]⟩,
  ⟨some 81, none, .mov (.slot 83)⟩,
  ⟨some 84, none, .extract 0 (.slot 81)⟩,
  ⟨some 85, none, .extract 1 (.slot 81)⟩,
  ⟨some 15, none, .alloc (.data false 2 [] true :: .int .i64 0 :: .data false 1 [] true :: .data false 3 [] true :: .int .i64 0 :: .int .i64 0 :: .int .i64 0 :: .int .i64 0 :: .int .i64 0 :: .int .i64 0 :: .int .i64 0 :: .int .i64 0 :: .int .i64 0 :: .int .i64 0 :: .int .i64 0 :: .int .i64 0 :: .int .i64 0 :: .int .i64 0 :: .int .i64 0 :: .int .i64 0 :: .int .i64 0 :: .int .i64 0 :: .int .i64 0 :: .int .i64 0 :: .int .i64 0 :: .int .i64 0 :: .int .i64 0 :: .int .i64 0 :: .int .i64 0 :: .int .i64 0 :: .int .i64 0 :: .int .i64 0 :: .int .i64 0 :: [])⟩,
  ⟨none, none, .store true 33 (.slot 15) (.slot 84)⟩,
  ⟨some 16, none, .mov (.slot 85)⟩]
def q11R13 : List AOper := [⟨some 87, none, .load true 33 (.slot 15)⟩,
  ⟨some 88, none, .call .frz n_session_Leave [(.slot 87), (.const (.int .i64 5))]⟩,
  ⟨some 86, none, .mov (.slot 88)⟩,
  ⟨some 89, none, .extract 0 (.slot 86)⟩,
  ⟨some 90, none, .extract 1 (.slot 86)⟩,
  ⟨some 17, none, .alloc (.data false 2 [] true :: .int .i64 0 :: .data false 1 [] true :: .data false 3 [] true :: .int .i64 0 :: .int .i64 0 :: .int .i64 0 :: .int .i64 0 :: .int .i64 0 :: .int .i64 0 :: .int .i64 0 :: .int .i64 0 :: .int .i64 0 :: .int .i64 0 :: .int .i64 0 :: .int .i64 0 :: .int .i64 0 :: .int .i64 0 :: .int .i64 0 :: .int .i64 0 :: .int .i64 0 :: .int .i64 0 :: .int .i64 0 :: .int .i64 0 :: .int .i64 0 :: .int .i64 0 :: .int .i64 0 :: .int .i64 0 :: .int .i64 0 :: .int .i64 0 :: .int .i64 0 :: .int .i64 0 :: .int .i64 0 :: [])⟩,
  ⟨none, none, .store true 33 (.slot 17) (.slot 89)⟩,
  ⟨some 18, none, .mov (.slot 90)⟩]
def q11R14 : List AOper := ⟨some 91, none, .mov (.slot 3)⟩ ::
  ⟨some 92, none, .bin .neq (.slot 91) (.const (.int .i64 0))⟩ ::
  ⟨some 93, none, .mov (.slot 92)⟩ ::
  ⟨some 94, some (93, false), .mov (.slot 4)⟩ ::
  ⟨some 95, some (93, false), .bin .neq (.slot 94) (.const (.int .i64 0))⟩ ::
  ⟨some 96, none, .pick (.slot 93) (.const (.bool true)) (.slot 95)⟩ ::
  ⟨some 97, none, .mov (.slot 96)⟩ ::
  ⟨some 98, some (97, false), .mov (.slot 5)⟩ ::
  ⟨some 99, some (97, false), .bin .neq (.slot 98) (.const (.int .i64 0))⟩ ::
  ⟨some 100, none, .pick (.slot 97) (.const (.bool true)) (.slot 99)⟩ ::
  ⟨some 101, none, .mov (.slot 100)⟩ ::
  ⟨some 102, some (101, false), .mov (.slot 6)⟩ ::
  ⟨some 103, some (101, false), .bin .neq (.slot 102) (.const (.int .i64 0))⟩ ::
  ⟨some 104, none, .pick (.slot 101) (.const (.bool true)) (.slot 103)⟩ ::
  ⟨some 105, none, .mov (.slot 104)⟩ ::
  ⟨some 106, some (105, false), .mov (.slot 7)⟩ ::
  ⟨some 107, some (105, false), .bin .neq (.slot 106) (.const (.int .i64 0))⟩ ::
  ⟨some 108, none, .pick (.slot 105) (.const (.bool true)) (.slot 107)⟩ ::
  ⟨some 109, none, .mov (.slot 108)⟩ ::
  ⟨some 110, some (109, false), .mov (.slot 12)⟩ ::
  ⟨some 111, some (109, false), .bin .neq (.slot 110) (.const (.int .i64 0))⟩ ::
  ⟨some 112, none, .pick (.slot 109) (.const (.bool true)) (.slot 111)⟩ ::
  ⟨some 113, none, .mov (.slot 112)⟩ ::
  ⟨some 114, some (113, false), .mov (.slot 13)⟩ ::
  ⟨some 115, some (113, false), .bin .neq (.slot 114) (.const (.int .i64 0))⟩ ::
  ⟨some 116, none, .pick (.slot 113) (.const (.bool true)) (.slot 115)⟩ ::
  ⟨some 117, none, .mov (.slot 116)⟩ ::
  ⟨some 118, some (117, false), .mov (.slot 14)⟩ ::
  ⟨some 119, some (117, false), .bin .neq (.slot 118) (.const (.int .i64 0))⟩ ::
  ⟨some 120, none, .pick (.slot 117) (.const (.bool true)) (.slot 119)⟩ ::
  ⟨some 121, none, .mov (.slot 120)⟩ ::
  ⟨some 122, some (121, false), .mov (.slot 18)⟩ ::
  ⟨some 123, some (121, false), .bin .neq (.slot 122) (.const (.int .i64 0))⟩ ::
  ⟨some 124, none, .pick (.slot 121) (.const (.bool true)) (.slot 123)⟩ ::
  ⟨some 125, none, .mov (.slot 124)⟩ ::
  ⟨some 126, some (125, false), .mov (.slot 9)⟩ ::
  ⟨some 127, some (125, false), .bin .neq (.slot 126) (.const (.int .i64 300))⟩ ::
  ⟨some 128, none, .pick (.slot 125) (.const (.bool true)) (.slot 127)⟩ ::
  ⟨some 129, none, .mov (.slot 128)⟩ ::
  ⟨some 130, some (129, false), .mov (.slot 11)⟩ ::
  ⟨some 131, some (129, false), .bin .neq (.slot 130) (.const (.int .i64 6))⟩ ::
  ⟨some 132, none, .pick (.slot 129) (.const (.bool true)) (.slot 131)⟩ :: []
def q11R15 : List AOper := [⟨some 0, none, .mov (.const (.bool false))⟩]
def q11R16 : List AOper := ⟨some 133, none, .faddr 22 (.slot 2)⟩ ::
  ⟨some 134, none, .load false 1 (.slot 133)⟩ ::
  ⟨some 135, none, .bin .eql (.slot 134) (.const (.int .i64 10))⟩ ::
  ⟨some 136, none, .mov (.slot 135)⟩ ::
  ⟨some 137, some (136, true), .faddr 23 (.slot 2)⟩ ::
  ⟨some 138, some (136, true), .load false 1 (.slot 137)⟩ ::
  ⟨some 139, some (136, true), .bin .eql (.slot 138) (.const (.int .i64 20))⟩ ::
  ⟨some 140, none, .pick (.slot 136) (.slot 139) (.const (.bool false))⟩ ::
  ⟨some 141, none, .mov (.slot 140)⟩ ::
  ⟨some 142, some (141, true), .faddr 1 (.slot 2)⟩ ::
  ⟨some 143, some (141, true), .faddr 0 (.slot 142)⟩ ::
  ⟨some 144, some (141, true), .load false 1 (.slot 143)⟩ ::
  ⟨some 145, some (141, true), .bin .eql (.slot 144) (.const (.int .i64 5))⟩ ::
  ⟨some 146, none, .pick (.slot 141) (.slot 145) (.const (.bool false))⟩ ::
  ⟨some 147, none, .mov (.slot 146)⟩ ::
  ⟨some 148, some (147, true), .mov (.slot 16)⟩ ::
  ⟨some 149, some (147, true), .len false (.slot 148)⟩ ::
  ⟨some 150, some (147, true), .bin .eql (.slot 149) (.const (.int .i64 1))⟩ ::
  ⟨some 151, none, .pick (.slot 147) (.slot 150) (.const (.bool false))⟩ ::
  ⟨some 152, none, .mov (.slot 151)⟩ ::
  ⟨some 153, some (152, true), .mov (.slot 16)⟩ ::
  ⟨some 154, some (152, true), .idx 3 (.slot 153) (.const (.int .i64 0))⟩ ::
  ⟨some 155, some (152, true), .faddr 2 (.slot 154)⟩ ::
  ⟨some 156, some (152, true), .load false 1 (.slot 155)⟩ ::
  ⟨some 157, some (152, true), .bstr (.slot 156)⟩ ::
  ⟨some 158, some (152, true), .eq false [.ks] false (.slot 157) (.const (.str ⟨#[97, 98]⟩))⟩ ::
  ⟨some 159, none, .pick (.slot 152) (.slot 158) (.const (.bool false))⟩ ::
  ⟨some 160, none, .mov (.slot 159)⟩ ::
  ⟨some 161, some (160, true), .mov (.slot 16)⟩ ::
  ⟨some 162, some (160, true), .idx 3 (.slot 161) (.const (.int .i64 0))⟩ ::
  ⟨some 163, some (160, true), .faddr 0 (.slot 162)⟩ ::
  ⟨some 164, some (160, true), .load false 1 (.slot 163)⟩ ::
  ⟨some 165, some (160, true), .bin .eql (.slot 164) (.const (.int .i64 3))⟩ ::
  ⟨some 166, none, .pick (.slot 160) (.slot 165) (.const (.bool false))⟩ ::
  ⟨some 167, none, .mov (.slot 166)⟩ ::
  ⟨some 168, some (167, true), .faddr 1 (.slot 17)⟩ ::
  ⟨some 169, some (167, true), .faddr 0 (.slot 168)⟩ ::
  ⟨some 170, some (167, true), .load false 1 (.slot 169)⟩ ::
  ⟨some 171, some (167, true), .bin .eql (.slot 170) (.const (.int .i64 0))⟩ ::
  ⟨some 172, none, .pick (.slot 167) (.slot 171) (.const (.bool false))⟩ ::
  ⟨some 173, none, .mov (.slot 172)⟩ ::
  ⟨some 174, some (173, true), .faddr 3 (.slot 17)⟩ ::
  ⟨some 175, some (173, true), .load false 1 (.slot 174)⟩ ::
  ⟨some 176, some (173, true), .len false (.slot 175)⟩ ::
  ⟨some 177, some (173, true), .bin .eql (.slot 176) (.const (.int .i64 0))⟩ ::
  ⟨some 178, none, .pick (.slot 173) (.slot 177) (.const (.bool false))⟩ ::
  ⟨some 0, none, .mov (.slot 178)⟩ :: []
def c_law30_known : AFn := ⟨(.seq (.region q11R0 false []) (.seq (.region q11R1 false [1]) (.seq (.region q11R2 false [1, 2, 3]) (.seq (.region q11R3 false [1, 2, 3, 4]) (.seq (.region q11R4 false [1, 2, 3, 4, 5]) (.seq (.region q11R5 false [1, 2, 3, 4, 5, 6]) (.seq (.region q11R6 false [1, 2, 3, 4, 5, 6, 7]) (.seq (.region q11R7 false [1, 2, 3, 4, 5, 6, 7, 9]) (.seq (.region q11R8 false [1, 2, 3, 4, 5, 6, 7, 9, 11]) (.seq (.region q11R9 false [2, 3, 4, 5, 6, 7, 9, 11, 12]) (.seq (.region q11R10 false [2, 3, 4, 5, 6, 7, 9, 11, 12, 13]) (.seq (.region q11R11 false [2, 3, 4, 5, 6, 7, 9, 11, 12, 13, 14]) (.seq (.region q11R12 false [2, 3, 4, 5, 6, 7, 9, 11, 12, 13, 14, 15, 16]) (.seq (.region q11R13 false [2, 3, 4, 5, 6, 7, 9, 11, 12, 13, 14, 16, 17, 18]) (.seq (.seq (.region q11R14 false [2, 16, 17, 132]) (.cond (.slot 132) (.seq (.region q11R15 false [0]) .ret) .skip)) (.seq (.region q11R16 false [0]) .ret)))))))))))))))), [.slot 0]⟩
/- oriel/oriellaw30.bytes -/
def q9R0 : List AOper := [⟨some 2, none, .mov (.const (.int .i64 0))⟩]
def q9R1 : List AOper := [⟨some 3, none, .mov (.const (.int .i64 0))⟩]
def q9R2 : List AOper := [⟨some 4, none, .mov (.const (.int .i64 0))⟩]
def q9R3 : List AOper := [⟨some 5, none, .mov (.slot 4)⟩,
  ⟨some 6, none, .mov (.slot 0)⟩,
  ⟨some 7, none, .len false (.slot 6)⟩,
  ⟨some 8, none, .bin .lss (.slot 5) (.slot 7)⟩]
def q9R5 : List AOper := [⟨some 11, none, .mov (.slot 3)⟩,
  ⟨some 12, none, .mov (.slot 0)⟩,
  ⟨some 13, none, .mov (.slot 4)⟩,
  ⟨some 14, none, .idx 3 (.slot 12) (.slot 13)⟩,
  ⟨some 15, none, .faddr 2 (.slot 14)⟩,
  ⟨some 16, none, .load false 1 (.slot 15)⟩,
  ⟨some 17, none, .len false (.slot 16)⟩,
  ⟨some 18, none, .bin .add (.slot 11) (.slot 17)⟩,
  ⟨some 3, none, .mov (.slot 18)⟩]
def q9R4 : List AOper := [⟨some 9, none, .mov (.slot 4)⟩,
  ⟨some 10, none, .bin .add (.slot 9) (.const (.int .i64 1))⟩,
  ⟨some 4, none, .mov (.slot 10)⟩]
def c_law30_bytes_L0 : ACode := (.seq (.seq (.region q9R3 false [0, 3, 4, 8]) (.cond (.slot 8) .skip (.exit 0))) (.seq (.block 1 (.region q9R5 false [0, 3, 4])) (.region q9R4 false [0, 3, 4])))
def lp_law30_bytes_0 : ACode := .loop [0, 3, 4] c_law30_bytes_L0
def q9R6 : List AOper := [⟨some 19, none, .mov (.slot 3)⟩,
  ⟨some 2, none, .mov (.slot 19)⟩]
def c_law30_bytes : AFn := ⟨(.seq (.region q9R0 false [0]) (.seq (.region q9R1 false [0, 3]) (.seq (.seq (.region q9R2 false [0, 3, 4]) (.block 0 lp_law30_bytes_0)) (.seq (.region q9R6 false [2]) .ret)))), [.slot 2]⟩
/- oriel/oriellaw30.role -/
def q13R0 : List AOper := [⟨some 2, none, .box 33 (.slot 0)⟩,
  ⟨some 4, none, .mov (.const (.int .i64 0))⟩]
def q13R1 : List AOper := [⟨some 5, none, .mov (.const (.int .i64 0))⟩]
def q13R2 : List AOper := [⟨some 6, none, .mov (.slot 5)⟩,
  ⟨some 7, none, .faddr 0 (.slot 2)⟩,
  ⟨some 8, none, .load false 1 (.slot 7)⟩,
  ⟨some 9, none, .len false (.slot 8)⟩,
  ⟨some 10, none, .bin .lss (.slot 6) (.slot 9)⟩]
def q13R4 : List AOper := [⟨some 13, none, .faddr 0 (.slot 2)⟩,
  ⟨some 14, none, .load false 1 (.slot 13)⟩,
  ⟨some 15, none, .mov (.slot 5)⟩,
  ⟨some 16, none, .idx 2 (.slot 14) (.slot 15)⟩,
  ⟨some 17, none, .faddr 0 (.slot 16)⟩,
  ⟨some 18, none, .load false 1 (.slot 17)⟩,
  ⟨some 19, none, .mov (.slot 1)⟩,
  ⟨some 20, none, .bin .eql (.slot 18) (.slot 19)⟩]
def q13R5 : List AOper := [⟨some 21, none, .faddr 0 (.slot 2)⟩,
  ⟨some 22, none, .load false 1 (.slot 21)⟩,
  ⟨some 23, none, .mov (.slot 5)⟩,
  ⟨some 24, none, .idx 2 (.slot 22) (.slot 23)⟩,
  ⟨some 25, none, .faddr 1 (.slot 24)⟩,
  ⟨some 26, none, .load false 1 (.slot 25)⟩,
  ⟨some 4, none, .mov (.slot 26)⟩]
def q13R3 : List AOper := [⟨some 11, none, .mov (.slot 5)⟩,
  ⟨some 12, none, .bin .add (.slot 11) (.const (.int .i64 1))⟩,
  ⟨some 5, none, .mov (.slot 12)⟩]
def c_law30_role_L0 : ACode := (.seq (.seq (.region q13R2 false [1, 2, 5, 10]) (.cond (.slot 10) .skip (.exit 0))) (.seq (.block 1 (.seq (.region q13R4 false [1, 2, 5, 20]) (.cond (.slot 20) (.seq (.region q13R5 false [4]) .ret) .skip))) (.region q13R3 false [1, 2, 5])))
def lp_law30_role_0 : ACode := .loop [1, 2, 5] c_law30_role_L0
def q13R6 : List AOper := [⟨some 4, none, .mov (.const (.int .i64 0))⟩]
def c_law30_role : AFn := ⟨(.seq (.region q13R0 false [1, 2]) (.seq (.seq (.region q13R1 false [1, 2, 5]) (.block 0 lp_law30_role_0)) (.seq (.region q13R6 false [4]) .ret))), [.slot 4]⟩
/- oriel/oriellaw30.least -/
def q12R0 : List AOper := [⟨some 1, none, .box 33 (.slot 0)⟩,
  ⟨some 2, none, .mov (.const (.bool false))⟩]
def q12R1 : List AOper := [⟨some 3, none, .mov (.const (.int .i64 24))⟩,
  ⟨some 4, none, .mov (.const (.int .i64 40))⟩,
  ⟨some 5, none, .mov (.const (.bool false))⟩]
def q12R2 : List AOper := [⟨some 6, none, .mov (.const (.int .i64 1))⟩]
def q12R3 : List AOper := [⟨some 8, none, .mov (.slot 6)⟩,
  ⟨some 9, none, .bin .leq (.slot 8) (.const (.int .i64 8))⟩]
def q12R5 : List AOper := [⟨some 12, none, .mov (.slot 6)⟩,
  ⟨some 13, none, .faddr 4 (.slot 1)⟩,
  ⟨some 14, none, .idxarr 2 9 (.slot 13) (.slot 12)⟩,
  ⟨some 15, none, .load true 2 (.slot 14)⟩,
  ⟨some 7, none, .alloc [.int .i64 0, .int .i64 0]⟩,
  ⟨none, none, .store true 2 (.slot 7) (.slot 15)⟩]
def q12R6 : List AOper := [⟨some 16, none, .load true 33 (.slot 1)⟩,
  ⟨some 17, none, .mov (.slot 6)⟩,
  ⟨some 18, none, .call .frz n_law30_role [(.slot 16), (.slot 17)]⟩,
  ⟨some 19, none, .bin .neq (.slot 18) (.const (.int .i64 0))⟩,
  ⟨some 20, none, .mov (.slot 19)⟩,
  ⟨some 21, some (20, true), .idxarr 1 2 (.slot 7) (.const (.int .i64 0))⟩,
  ⟨some 22, some (20, true), .load false 1 (.slot 21)⟩,
  ⟨some 23, some (20, true), .bin .gtr (.slot 22) (.const (.int .i64 0))⟩,
  ⟨some 24, none, .pick (.slot 20) (.slot 23) (.const (.bool false))⟩]
def q12R7 : List AOper := [⟨some 25, none, .mov (.slot 3)⟩,
  ⟨some 26, none, .idxarr 1 2 (.slot 7) (.const (.int .i64 0))⟩,
  ⟨some 27, none, .load false 1 (.slot 26)⟩,
  ⟨some 28, none, .min (.slot 25) (.slot 27)⟩,
  ⟨some 29, none, .mov (.slot 4)⟩,
  ⟨some 30, none, .idxarr 1 2 (.slot 7) (.const (.int .i64 1))⟩,
  ⟨some 31, none, .load false 1 (.slot 30)⟩,
  ⟨some 32, none, .min (.slot 29) (.slot 31)⟩,
  ⟨some 3, none, .mov (.slot 28)⟩,
  ⟨some 4, none, .mov (.slot 32)⟩,
  ⟨some 5, none, .mov (.const (.bool true))⟩]
def q12R4 : List AOper := [⟨some 10, none, .mov (.slot 6)⟩,
  ⟨some 11, none, .bin .add (.slot 10) (.const (.int .i64 1))⟩,
  ⟨some 6, none, .mov (.slot 11)⟩]
def c_law30_least_L0 : ACode := (.seq (.seq (.region q12R3 false [1, 3, 4, 5, 6, 9]) (.cond (.slot 9) .skip (.exit 0))) (.seq (.block 1 (.seq (.region q12R5 false [1, 3, 4, 5, 6, 7]) (.seq (.region q12R6 false [1, 3, 4, 5, 6, 7, 24]) (.cond (.slot 24) (.region q12R7 true [1, 3, 4, 5, 6]) .skip)))) (.region q12R4 false [1, 3, 4, 5, 6])))
def lp_law30_least_0 : ACode := .loop [1, 3, 4, 5, 6] c_law30_least_L0
def q12R8 : List AOper := [⟨some 33, none, .mov (.slot 5)⟩,
  ⟨some 34, none, .not (.slot 33)⟩,
  ⟨some 35, none, .mov (.slot 34)⟩,
  ⟨some 36, some (35, false), .faddr 22 (.slot 1)⟩,
  ⟨some 37, some (35, false), .load false 1 (.slot 36)⟩,
  ⟨some 38, some (35, false), .mov (.slot 3)⟩,
  ⟨some 39, some (35, false), .bin .eql (.slot 37) (.slot 38)⟩,
  ⟨some 40, some (35, false), .mov (.slot 39)⟩,
  ⟨some 41, some (40, true), .faddr 23 (.slot 1)⟩,
  ⟨some 42, some (40, true), .load false 1 (.slot 41)⟩,
  ⟨some 43, some (40, true), .mov (.slot 4)⟩,
  ⟨some 44, some (40, true), .bin .eql (.slot 42) (.slot 43)⟩,
  ⟨some 45, some (35, false), .pick (.slot 40) (.slot 44) (.const (.bool false))⟩,
  ⟨some 46, none, .pick (.slot 35) (.const (.bool true)) (.slot 45)⟩,
  ⟨some 2, none, .mov (.slot 46)⟩]
def c_law30_least : AFn := ⟨(.seq (.region q12R0 false [1]) (.seq (.region q12R1 false [1, 3, 4, 5]) (.seq (.seq (.region q12R2 false [1, 3, 4, 5, 6]) (.block 0 lp_law30_least_0)) (.seq (.region q12R8 false [2]) .ret)))), [.slot 2]⟩
/- oriel/oriellaw30.SessionRights -/
def q8R0 : List AOper := [⟨some 2, none, .mov (.const (.bool false))⟩]
def q8R1 : List AOper := [⟨some 14, none, .call .frz n_law30_known []⟩,
  ⟨some 15, none, .not (.slot 14)⟩]
def q8R2 : List AOper := [⟨some 2, none, .mov (.const (.bool false))⟩]
def q8R3 : List AOper := [⟨some 16, none, .mov (.slot 0)⟩,
  ⟨some 17, none, .len false (.slot 16)⟩,
  ⟨some 18, none, .bin .gtr (.slot 17) (.const (.int .i64 150))⟩]
def q8R4 : List AOper := [⟨some 2, none, .mov (.const (.bool true))⟩]
def q8R5 : List AOper := [⟨some 19, none, .call .frz n_session_First []⟩,
  ⟨some 3, none, .alloc (.data false 2 [] true :: .int .i64 0 :: .data false 1 [] true :: .data false 3 [] true :: .int .i64 0 :: .int .i64 0 :: .int .i64 0 :: .int .i64 0 :: .int .i64 0 :: .int .i64 0 :: .int .i64 0 :: .int .i64 0 :: .int .i64 0 :: .int .i64 0 :: .int .i64 0 :: .int .i64 0 :: .int .i64 0 :: .int .i64 0 :: .int .i64 0 :: .int .i64 0 :: .int .i64 0 :: .int .i64 0 :: .int .i64 0 :: .int .i64 0 :: .int .i64 0 :: .int .i64 0 :: .int .i64 0 :: .int .i64 0 :: .int .i64 0 :: .int .i64 0 :: .int .i64 0 :: .int .i64 0 :: .int .i64 0 :: [])⟩,
  ⟨none, none, .store true 33 (.slot 3) (.slot 19)⟩]
def q8R6 : List AOper := [⟨some 4, none, .mknil 3⟩]
def q8R7 : List AOper := [⟨some 5, none, .mov (.const (.int .i64 0))⟩]
def q8R8 : List AOper := [⟨some 20, none, .mov (.slot 5)⟩,
  ⟨some 21, none, .mov (.slot 0)⟩,
  ⟨some 22, none, .len false (.slot 21)⟩,
  ⟨some 23, none, .bin .lss (.slot 20) (.slot 22)⟩]
def q8R10 : List AOper := [⟨some 26, none, .mov (.slot 0)⟩,
  ⟨some 27, none, .mov (.slot 5)⟩,
  ⟨some 28, none, .idx 8 (.slot 26) (.slot 27)⟩,
  ⟨some 29, none, .load true 8 (.slot 28)⟩,
  ⟨some 6, none, .alloc [.int .i64 0, .int .i64 0, .int .i64 0, .int .i64 0, .int .i64 0, .data false 1 [] true, .int .i64 0, .int .i64 0]⟩,
  ⟨none, none, .store true 8 (.slot 6) (.slot 29)⟩]
def q8R11 : List AOper := [⟨some 30, none, .faddr 1 (.slot 6)⟩,
  ⟨some 31, none, .load false 1 (.slot 30)⟩,
  ⟨some 32, none, .bin .lss (.slot 31) (.const (.int .i64 1))⟩,
  ⟨some 33, none, .mov (.slot 32)⟩,
  ⟨some 34, some (33, false), .faddr 1 (.slot 6)⟩,
  ⟨some 35, some (33, false), .load false 1 (.slot 34)⟩,
  ⟨some 36, some (33, false), .bin .gtr (.slot 35) (.const (.int .i64 8))⟩,
  ⟨some 37, none, .pick (.slot 33) (.const (.bool true)) (.slot 36)⟩,
  ⟨some 38, none, .mov (.slot 37)⟩,
  ⟨some 39, some (38, false), .faddr 4 (.slot 6)⟩,
  ⟨some 40, some (38, false), .faddr 1 (.slot 39)⟩,
  ⟨some 41, some (38, false), .load false 1 (.slot 40)⟩,
  ⟨some 42, some (38, false), .len false (.slot 41)⟩,
  ⟨some 43, some (38, false), .bin .gtr (.slot 42) (.const (.int .i64 16))⟩,
  ⟨some 44, none, .pick (.slot 38) (.const (.bool true)) (.slot 43)⟩]
def q8R12 : List AOper := [⟨some 2, none, .mov (.const (.bool true))⟩]
def q8R13 : List AOper := [⟨some 45, none, .load true 33 (.slot 3)⟩,
  ⟨some 7, none, .alloc (.data false 2 [] true :: .int .i64 0 :: .data false 1 [] true :: .data false 3 [] true :: .int .i64 0 :: .int .i64 0 :: .int .i64 0 :: .int .i64 0 :: .int .i64 0 :: .int .i64 0 :: .int .i64 0 :: .int .i64 0 :: .int .i64 0 :: .int .i64 0 :: .int .i64 0 :: .int .i64 0 :: .int .i64 0 :: .int .i64 0 :: .int .i64 0 :: .int .i64 0 :: .int .i64 0 :: .int .i64 0 :: .int .i64 0 :: .int .i64 0 :: .int .i64 0 :: .int .i64 0 :: .int .i64 0 :: .int .i64 0 :: .int .i64 0 :: .int .i64 0 :: .int .i64 0 :: .int .i64 0 :: .int .i64 0 :: [])⟩,
  ⟨none, none, .store true 33 (.slot 7) (.slot 45)⟩,
  ⟨some 8, none, .mov (.const (.int .i64 0))⟩]
def q8R14 : List AOper := [⟨some 46, none, .faddr 0 (.slot 6)⟩,
  ⟨some 47, none, .load false 1 (.slot 46)⟩]
def q8R15 : List AOper := [⟨some 49, none, .bin .eql (.slot 47) (.const (.int .i64 0))⟩,
  ⟨some 48, none, .mov (.slot 49)⟩]
def q8R16 : List AOper := [⟨some 51, none, .load true 33 (.slot 3)⟩,
  ⟨some 52, none, .faddr 1 (.slot 6)⟩,
  ⟨some 53, none, .load false 1 (.slot 52)⟩,
  ⟨some 54, none, .faddr 3 (.slot 6)⟩,
  ⟨some 55, none, .load false 1 (.slot 54)⟩,
  ⟨some 56, none, .call .frz n_session_Join [(.slot 51), (.slot 53), (.slot 55)]⟩,
  ⟨some 50, none, .mov (.slot 56)⟩,
  ⟨some 57, none, .extract 0 (.slot 50)⟩,
  ⟨some 58, none, .extract 1 (.slot 50)⟩,
  ⟨none, none, .store true 33 (.slot 7) (.slot 57)⟩,
  ⟨some 8, none, .mov (.slot 58)⟩]
def q8R17 : List AOper := [⟨some 60, none, .bin .eql (.slot 47) (.const (.int .i64 1))⟩,
  ⟨some 59, none, .mov (.slot 60)⟩]
def q8R18 : List AOper := [⟨some 62, none, .load true 33 (.slot 3)⟩,
  ⟨some 63, none, .faddr 1 (.slot 6)⟩,
  ⟨some 64, none, .load false 1 (.slot 63)⟩,
  ⟨some 65, none, .call .frz n_session_Leave [(.slot 62), (.slot 64)]⟩,
  ⟨some 61, none, .mov (.slot 65)⟩,
  ⟨some 66, none, .extract 0 (.slot 61)⟩,
  ⟨some 67, none, .extract 1 (.slot 61)⟩,
  ⟨none, none, .store true 33 (.slot 7) (.slot 66)⟩,
  ⟨some 8, none, .mov (.slot 67)⟩]
def q8R19 : List AOper := [⟨some 9, none, .mknil 3⟩]
def q8R20 : List AOper := [⟨some 10, none, .mov (.const (.int .i64 0))⟩]
def q8R21 : List AOper := [⟨some 68, none, .mov (.slot 10)⟩,
  ⟨some 69, none, .mov (.slot 4)⟩,
  ⟨some 70, none, .len false (.slot 69)⟩,
  ⟨some 71, none, .bin .lss (.slot 68) (.slot 70)⟩]
def q8R23 : List AOper := [⟨some 74, none, .mov (.slot 4)⟩,
  ⟨some 75, none, .mov (.slot 10)⟩,
  ⟨some 76, none, .idx 3 (.slot 74) (.slot 75)⟩,
  ⟨some 77, none, .faddr 0 (.slot 76)⟩,
  ⟨some 78, none, .load false 1 (.slot 77)⟩,
  ⟨some 79, none, .faddr 1 (.slot 6)⟩,
  ⟨some 80, none, .load false 1 (.slot 79)⟩,
  ⟨some 81, none, .bin .neq (.slot 78) (.slot 80)⟩]
def q8R24 : List AOper := [⟨some 82, none, .mov (.slot 9)⟩,
  ⟨some 83, none, .mov (.slot 4)⟩,
  ⟨some 84, none, .mov (.slot 10)⟩,
  ⟨some 85, none, .idx 3 (.slot 83) (.slot 84)⟩,
  ⟨some 86, none, .load true 3 (.slot 85)⟩,
  ⟨some 87, none, .mkslice 3 1 [.int .i64 0, .int .i64 0, .data false 1 [] true] [(0, (.slot 86))]⟩,
  ⟨some 88, none, .append 3 40 (.slot 82) (.slot 87)⟩,
  ⟨some 9, none, .mov (.slot 88)⟩]
def q8R22 : List AOper := [⟨some 72, none, .mov (.slot 10)⟩,
  ⟨some 73, none, .bin .add (.slot 72) (.const (.int .i64 1))⟩,
  ⟨some 10, none, .mov (.slot 73)⟩]
def c_law30_SessionRights_L1 : ACode := (.seq (.seq (.region q8R21 false [0, 3, 4, 5, 6, 7, 8, 9, 10, 71]) (.cond (.slot 71) .skip (.exit 3))) (.seq (.block 4 (.seq (.region q8R23 true [0, 3, 4, 5, 6, 7, 8, 9, 10, 81]) (.cond (.slot 81) (.region q8R24 false [0, 3, 4, 5, 6, 7, 8, 9, 10]) .skip))) (.region q8R22 false [0, 3, 4, 5, 6, 7, 8, 9, 10])))
def lp_law30_SessionRights_1 : ACode := .loop [0, 3, 4, 5, 6, 7, 8, 9, 10] c_law30_SessionRights_L1
def q8R25 : List AOper := [⟨some 89, none, .mov (.slot 9)⟩,
  ⟨some 4, none, .mov (.slot 89)⟩]
def q8R26 : List AOper := [⟨some 91, none, .bin .eql (.slot 47) (.const (.int .i64 2))⟩,
  ⟨some 90, none, .mov (.slot 91)⟩]
def q8R27 : List AOper := [⟨some 93, none, .load true 33 (.slot 3)⟩,
  ⟨some 94, none, .faddr 1 (.slot 6)⟩,
  ⟨some 95, none, .load false 1 (.slot 94)⟩,
  ⟨some 96, none, .faddr 3 (.slot 6)⟩,
  ⟨some 97, none, .load false 1 (.slot 96)⟩,
  ⟨some 98, none, .call .frz n_session_Change [(.slot 93), (.slot 95), (.slot 97)]⟩,
  ⟨some 92, none, .mov (.slot 98)⟩,
  ⟨some 99, none, .extract 0 (.slot 92)⟩,
  ⟨some 100, none, .extract 1 (.slot 92)⟩,
  ⟨none, none, .store true 33 (.slot 7) (.slot 99)⟩,
  ⟨some 8, none, .mov (.slot 100)⟩]
def q8R28 : List AOper := [⟨some 102, none, .bin .eql (.slot 47) (.const (.int .i64 3))⟩,
  ⟨some 101, none, .mov (.slot 102)⟩]
def q8R29 : List AOper := [⟨some 104, none, .load true 33 (.slot 3)⟩,
  ⟨some 105, none, .faddr 1 (.slot 6)⟩,
  ⟨some 106, none, .load false 1 (.slot 105)⟩,
  ⟨some 107, none, .faddr 1 (.slot 6)⟩,
  ⟨some 108, none, .load false 1 (.slot 107)⟩,
  ⟨some 109, none, .faddr 24 (.slot 3)⟩,
  ⟨some 110, none, .idxarr 1 9 (.slot 109) (.slot 108)⟩,
  ⟨some 111, none, .load false 1 (.slot 110)⟩,
  ⟨some 112, none, .bin .add (.slot 111) (.const (.int .i64 1))⟩,
  ⟨some 113, none, .faddr 4 (.slot 6)⟩,
  ⟨some 114, none, .load true 4 (.slot 113)⟩,
  ⟨some 115, none, .call .frz n_session_Take [(.slot 104), (.slot 106), (.slot 112), (.slot 114)]⟩,
  ⟨some 103, none, .mov (.slot 115)⟩,
  ⟨some 116, none, .extract 0 (.slot 103)⟩,
  ⟨some 117, none, .extract 1 (.slot 103)⟩,
  ⟨none, none, .store true 33 (.slot 7) (.slot 116)⟩,
  ⟨some 8, none, .mov (.slot 117)⟩]
def q8R30 : List AOper := [⟨some 118, none, .mov (.slot 8)⟩,
  ⟨some 119, none, .bin .eql (.slot 118) (.const (.int .i64 0))⟩,
  ⟨some 120, none, .mov (.slot 119)⟩,
  ⟨some 121, some (120, true), .faddr 4 (.slot 6)⟩,
  ⟨some 122, some (120, true), .faddr 0 (.slot 121)⟩,
  ⟨some 123, some (120, true), .load false 1 (.slot 122)⟩,
  ⟨some 124, some (120, true), .bin .eql (.slot 123) (.const (.int .i64 1))⟩,
  ⟨some 125, none, .pick (.slot 120) (.slot 124) (.const (.bool false))⟩,
  ⟨some 126, none, .mov (.slot 125)⟩,
  ⟨some 127, some (126, true), .faddr 1 (.slot 3)⟩,
  ⟨some 128, some (126, true), .faddr 0 (.slot 127)⟩,
  ⟨some 129, some (126, true), .load false 1 (.slot 128)⟩,
  ⟨some 130, some (126, true), .faddr 1 (.slot 6)⟩,
  ⟨some 131, some (126, true), .load false 1 (.slot 130)⟩,
  ⟨some 132, some (126, true), .bin .eql (.slot 129) (.slot 131)⟩,
  ⟨some 133, none, .pick (.slot 126) (.slot 132) (.const (.bool false))⟩,
  ⟨some 134, none, .mov (.slot 133)⟩,
  ⟨some 135, some (134, true), .mov (.slot 4)⟩,
  ⟨some 136, some (134, true), .call .frz n_law30_bytes [(.slot 135)]⟩,
  ⟨some 137, some (134, true), .faddr 4 (.slot 6)⟩,
  ⟨some 138, some (134, true), .faddr 1 (.slot 137)⟩,
  ⟨some 139, some (134, true), .load false 1 (.slot 138)⟩,
  ⟨some 140, some (134, true), .len false (.slot 139)⟩,
  ⟨some 141, some (134, true), .bin .add (.slot 136) (.slot 140)⟩,
  ⟨some 142, some (134, true), .bin .leq (.slot 141) (.const (.int .i64 64))⟩,
  ⟨some 143, none, .pick (.slot 134) (.slot 142) (.const (.bool false))⟩]
def q8R31 : List AOper := [⟨some 144, none, .mov (.slot 4)⟩,
  ⟨some 145, none, .faddr 1 (.slot 6)⟩,
  ⟨some 146, none, .load false 1 (.slot 145)⟩,
  ⟨some 147, none, .faddr 1 (.slot 6)⟩,
  ⟨some 148, none, .load false 1 (.slot 147)⟩,
  ⟨some 149, none, .faddr 24 (.slot 3)⟩,
  ⟨some 150, none, .idxarr 1 9 (.slot 149) (.slot 148)⟩,
  ⟨some 151, none, .load false 1 (.slot 150)⟩,
  ⟨some 152, none, .bin .add (.slot 151) (.const (.int .i64 1))⟩,
  ⟨some 153, none, .faddr 4 (.slot 6)⟩,
  ⟨some 154, none, .faddr 1 (.slot 153)⟩,
  ⟨some 155, none, .load false 1 (.slot 154)⟩,
  ⟨some 156, none, .build [.int .i64 0, .int .i64 0, .data false 1 [] true] [(0, 1, (.slot 146)), (1, 1, (.slot 152)), (2, 1, (.slot 155))]⟩,
  ⟨some 157, none, .mkslice 3 1 [.int .i64 0, .int .i64 0, .data false 1 [] true] [(0, (.slot 156))]⟩,
  ⟨some 158, none, .append 3 40 (.slot 144) (.slot 157)⟩,
  ⟨some 4, none, .mov (.slot 158)⟩]
def q8R32 : List AOper := [⟨some 160, none, .bin .eql (.slot 47) (.const (.int .i64 4))⟩,
  ⟨some 159, none, .mov (.slot 160)⟩]
def q8R33 : List AOper := [⟨some 11, none, .mov (.const (.data false 3 [] true))⟩]
def q8R34 : List AOper := [⟨some 162, none, .load true 33 (.slot 3)⟩,
  ⟨some 163, none, .faddr 2 (.slot 6)⟩,
  ⟨some 164, none, .load false 1 (.slot 163)⟩,
  ⟨some 165, none, .call .frz n_session_Write [(.slot 162), (.slot 164)]⟩,
  ⟨some 161, none, .mov (.slot 165)⟩,
  ⟨some 166, none, .extract 0 (.slot 161)⟩,
  ⟨some 167, none, .extract 1 (.slot 161)⟩,
  ⟨none, none, .store true 33 (.slot 7) (.slot 166)⟩,
  ⟨some 11, none, .mov (.slot 167)⟩]
def q8R35 : List AOper := [⟨some 12, none, .mov (.const (.int .i64 0))⟩]
def q8R36 : List AOper := [⟨some 168, none, .mov (.slot 12)⟩,
  ⟨some 169, none, .mov (.slot 11)⟩,
  ⟨some 170, none, .len false (.slot 169)⟩,
  ⟨some 171, none, .bin .lss (.slot 168) (.slot 170)⟩]
def q8R38 : List AOper := ⟨some 174, none, .mov (.slot 12)⟩ ::
  ⟨some 175, none, .mov (.slot 4)⟩ ::
  ⟨some 176, none, .len false (.slot 175)⟩ ::
  ⟨some 177, none, .bin .geq (.slot 174) (.slot 176)⟩ ::
  ⟨some 178, none, .mov (.slot 177)⟩ ::
  ⟨some 179, some (178, false), .mov (.slot 11)⟩ ::
  ⟨some 180, some (178, false), .mov (.slot 12)⟩ ::
  ⟨some 181, some (178, false), .idx 3 (.slot 179) (.slot 180)⟩ ::
  ⟨some 182, some (178, false), .faddr 0 (.slot 181)⟩ ::
  ⟨some 183, some (178, false), .load false 1 (.slot 182)⟩ ::
  ⟨some 184, some (178, false), .mov (.slot 4)⟩ ::
  ⟨some 185, some (178, false), .mov (.slot 12)⟩ ::
  ⟨some 186, some (178, false), .idx 3 (.slot 184) (.slot 185)⟩ ::
  ⟨some 187, some (178, false), .faddr 0 (.slot 186)⟩ ::
  ⟨some 188, some (178, false), .load false 1 (.slot 187)⟩ ::
  ⟨some 189, some (178, false), .bin .neq (.slot 183) (.slot 188)⟩ ::
  ⟨some 190, none, .pick (.slot 178) (.const (.bool true)) (.slot 189)⟩ ::
  ⟨some 191, none, .mov (.slot 190)⟩ ::
  ⟨some 192, some (191, false), .mov (.slot 11)⟩ ::
  ⟨some 193, some (191, false), .mov (.slot 12)⟩ ::
  ⟨some 194, some (191, false), .idx 3 (.slot 192) (.slot 193)⟩ ::
  ⟨some 195, some (191, false), .faddr 1 (.slot 194)⟩ ::
  ⟨some 196, some (191, false), .load false 1 (.slot 195)⟩ ::
  ⟨some 197, some (191, false), .mov (.slot 4)⟩ ::
  ⟨some 198, some (191, false), .mov (.slot 12)⟩ ::
  ⟨some 199, some (191, false), .idx 3 (.slot 197) (.slot 198)⟩ ::
  ⟨some 200, some (191, false), .faddr 1 (.slot 199)⟩ ::
  ⟨some 201, some (191, false), .load false 1 (.slot 200)⟩ ::
  ⟨some 202, some (191, false), .bin .neq (.slot 196) (.slot 201)⟩ ::
  ⟨some 203, none, .pick (.slot 191) (.const (.bool true)) (.slot 202)⟩ ::
  ⟨some 204, none, .mov (.slot 203)⟩ ::
  ⟨some 205, some (204, false), .mov (.slot 11)⟩ ::
  ⟨some 206, some (204, false), .mov (.slot 12)⟩ ::
  ⟨some 207, some (204, false), .idx 3 (.slot 205) (.slot 206)⟩ ::
  ⟨some 208, some (204, false), .faddr 2 (.slot 207)⟩ ::
  ⟨some 209, some (204, false), .load false 1 (.slot 208)⟩ ::
  ⟨some 210, some (204, false), .bstr (.slot 209)⟩ ::
  ⟨some 211, some (204, false), .mov (.slot 4)⟩ ::
  ⟨some 212, some (204, false), .mov (.slot 12)⟩ ::
  ⟨some 213, some (204, false), .idx 3 (.slot 211) (.slot 212)⟩ ::
  ⟨some 214, some (204, false), .faddr 2 (.slot 213)⟩ ::
  ⟨some 215, some (204, false), .load false 1 (.slot 214)⟩ ::
  ⟨some 216, some (204, false), .bstr (.slot 215)⟩ ::
  ⟨some 217, some (204, false), .eq false [.ks] true (.slot 210) (.slot 216)⟩ ::
  ⟨some 218, none, .pick (.slot 204) (.const (.bool true)) (.slot 217)⟩ :: []
def q8R39 : List AOper := [⟨some 2, none, .mov (.const (.bool false))⟩]
def q8R37 : List AOper := [⟨some 172, none, .mov (.slot 12)⟩,
  ⟨some 173, none, .bin .add (.slot 172) (.const (.int .i64 1))⟩,
  ⟨some 12, none, .mov (.slot 173)⟩]
def c_law30_SessionRights_L2 : ACode := (.seq (.seq (.region q8R36 false [0, 3, 4, 5, 7, 8, 11, 12, 171]) (.cond (.slot 171) .skip (.exit 5))) (.seq (.block 6 (.seq (.region q8R38 true [0, 3, 4, 5, 7, 8, 11, 12, 218]) (.cond (.slot 218) (.seq (.region q8R39 false [2]) .ret) .skip))) (.region q8R37 false [0, 3, 4, 5, 7, 8, 11, 12])))
def lp_law30_SessionRights_2 : ACode := .loop [0, 3, 4, 5, 7, 8, 11, 12] c_law30_SessionRights_L2
def q8R40 : List AOper := [⟨some 219, none, .mov (.slot 4)⟩,
  ⟨some 220, none, .mov (.slot 11)⟩,
  ⟨some 221, none, .len false (.slot 220)⟩,
  ⟨some 222, none, .sl 3 (.slot 219) (some (.slot 221)) none none⟩,
  ⟨some 4, none, .mov (.slot 222)⟩]
def q8R41 : List AOper := [⟨some 223, none, .mov (.slot 8)⟩,
  ⟨some 224, none, .bin .neq (.slot 223) (.const (.int .i64 0))⟩]
def q8R42 : List AOper := [⟨some 225, none, .faddr 0 (.slot 7)⟩,
  ⟨some 226, none, .load false 1 (.slot 225)⟩,
  ⟨some 227, none, .len false (.slot 226)⟩,
  ⟨some 228, none, .bin .gtr (.slot 227) (.const (.int .i64 0))⟩]
def q8R43 : List AOper := [⟨some 2, none, .mov (.const (.bool false))⟩]
def q8R44 : List AOper := [⟨some 229, none, .load true 33 (.slot 7)⟩,
  ⟨none, none, .store true 33 (.slot 3) (.slot 229)⟩]
def q8R45 : List AOper := [⟨some 230, none, .faddr 1 (.slot 3)⟩,
  ⟨some 231, none, .faddr 0 (.slot 230)⟩,
  ⟨some 232, none, .load false 1 (.slot 231)⟩,
  ⟨some 13, none, .mov (.slot 232)⟩]
def q8R46 : List AOper := [⟨some 233, none, .load true 33 (.slot 3)⟩,
  ⟨some 234, none, .call .frz n_session_May [(.slot 233)]⟩,
  ⟨some 235, none, .not (.slot 234)⟩,
  ⟨some 236, none, .mov (.slot 235)⟩,
  ⟨some 237, some (236, false), .mov (.slot 13)⟩,
  ⟨some 238, some (236, false), .bin .neq (.slot 237) (.const (.int .i64 0))⟩,
  ⟨some 239, some (236, false), .mov (.slot 238)⟩,
  ⟨some 240, some (239, true), .load true 33 (.slot 3)⟩,
  ⟨some 241, some (239, true), .mov (.slot 13)⟩,
  ⟨some 242, some (239, true), .call .frz n_law30_role [(.slot 240), (.slot 241)]⟩,
  ⟨some 243, some (239, true), .bin .neq (.slot 242) (.const (.int .i64 2))⟩,
  ⟨some 244, some (236, false), .pick (.slot 239) (.slot 243) (.const (.bool false))⟩,
  ⟨some 245, none, .pick (.slot 236) (.const (.bool true)) (.slot 244)⟩,
  ⟨some 246, none, .mov (.slot 245)⟩,
  ⟨some 247, some (246, false), .faddr 3 (.slot 3)⟩,
  ⟨some 248, some (246, false), .load false 1 (.slot 247)⟩,
  ⟨some 249, some (246, false), .len false (.slot 248)⟩,
  ⟨some 250, some (246, false), .mov (.slot 4)⟩,
  ⟨some 251, some (246, false), .len false (.slot 250)⟩,
  ⟨some 252, some (246, false), .bin .neq (.slot 249) (.slot 251)⟩,
  ⟨some 253, none, .pick (.slot 246) (.const (.bool true)) (.slot 252)⟩,
  ⟨some 254, none, .mov (.slot 253)⟩,
  ⟨some 255, some (254, false), .load true 33 (.slot 3)⟩,
  ⟨some 256, some (254, false), .call .frz n_law30_least [(.slot 255)]⟩,
  ⟨some 257, some (254, false), .not (.slot 256)⟩,
  ⟨some 258, none, .pick (.slot 254) (.const (.bool true)) (.slot 257)⟩]
def q8R47 : List AOper := [⟨some 2, none, .mov (.const (.bool false))⟩]
def q8R9 : List AOper := [⟨some 24, none, .mov (.slot 5)⟩,
  ⟨some 25, none, .bin .add (.slot 24) (.const (.int .i64 1))⟩,
  ⟨some 5, none, .mov (.slot 25)⟩]
def c_law30_SessionRights_L0 : ACode := (.seq (.seq (.region q8R8 false [0, 3, 4, 5, 23]) (.cond (.slot 23) .skip (.exit 0))) (.seq (.block 1 (.seq (.region q8R10 false [0, 3, 4, 5, 6]) (.seq (.seq (.region q8R11 false [0, 3, 4, 5, 6, 44]) (.cond (.slot 44) (.seq (.region q8R12 false [2]) .ret) .skip)) (.seq (.region q8R13 false [0, 3, 4, 5, 6, 7, 8]) (.seq (.seq (.region q8R14 false [0, 3, 4, 5, 6, 7, 8, 47]) (.block 2 (.seq (.region q8R15 false [0, 3, 4, 5, 6, 7, 8, 47, 48]) (.cond (.slot 48) (.region q8R16 false [0, 3, 4, 5, 7, 8]) (.seq (.region q8R17 false [0, 3, 4, 5, 6, 7, 8, 47, 59]) (.cond (.slot 59) (.seq (.region q8R18 false [0, 3, 4, 5, 6, 7, 8]) (.seq (.region q8R19 false [0, 3, 4, 5, 6, 7, 8, 9]) (.seq (.seq (.region q8R20 false [0, 3, 4, 5, 6, 7, 8, 9, 10]) (.block 3 lp_law30_SessionRights_1)) (.region q8R25 false [0, 3, 4, 5, 7, 8])))) (.seq (.region q8R26 false [0, 3, 4, 5, 6, 7, 8, 47, 90]) (.cond (.slot 90) (.region q8R27 false [0, 3, 4, 5, 7, 8]) (.seq (.region q8R28 false [0, 3, 4, 5, 6, 7, 8, 47, 101]) (.cond (.slot 101) (.seq (.region q8R29 true [0, 3, 4, 5, 6, 7, 8]) (.seq (.region q8R30 true [0, 3, 4, 5, 6, 7, 8, 143]) (.cond (.slot 143) (.region q8R31 true [0, 3, 4, 5, 7, 8]) .skip))) (.seq (.region q8R32 false [0, 3, 4, 5, 6, 7, 8, 159]) (.cond (.slot 159) (.seq (.region q8R33 false [0, 3, 4, 5, 6, 7, 8]) (.seq (.region q8R34 false [0, 3, 4, 5, 7, 8, 11]) (.seq (.seq (.region q8R35 false [0, 3, 4, 5, 7, 8, 11, 12]) (.block 5 lp_law30_SessionRights_2)) (.region q8R40 false [0, 3, 4, 5, 7, 8])))) .skip)))))))))))) (.seq (.seq (.region q8R41 false [0, 3, 4, 5, 7, 224]) (.cond (.slot 224) (.seq (.seq (.region q8R42 false [0, 3, 4, 5, 228]) (.cond (.slot 228) (.seq (.region q8R43 false [2]) .ret) .skip)) (.exit 1)) .skip)) (.seq (.region q8R44 false [0, 3, 4, 5]) (.seq (.region q8R45 false [0, 3, 4, 5, 13]) (.seq (.region q8R46 false [0, 3, 4, 5, 258]) (.cond (.slot 258) (.seq (.region q8R47 false [2]) .ret) .skip)))))))))) (.region q8R9 false [0, 3, 4, 5])))
def lp_law30_SessionRights_0 : ACode := .loop [0, 3, 4, 5] c_law30_SessionRights_L0
def q8R48 : List AOper := [⟨some 2, none, .mov (.const (.bool true))⟩]
def c_law30_SessionRights : AFn := ⟨(.seq (.region q8R0 false [0]) (.seq (.seq (.region q8R1 false [0, 15]) (.cond (.slot 15) (.seq (.region q8R2 false [2]) .ret) .skip)) (.seq (.seq (.region q8R3 false [0, 18]) (.cond (.slot 18) (.seq (.region q8R4 false [2]) .ret) .skip)) (.seq (.region q8R5 false [0, 3]) (.seq (.region q8R6 false [0, 3, 4]) (.seq (.seq (.region q8R7 false [0, 3, 4, 5]) (.block 0 lp_law30_SessionRights_0)) (.seq (.region q8R48 false [2]) .ret))))))), [.slot 2]⟩
/-- The seat's functions. -/
def FT : Nat → Option AEnt
  | 7 => some (.fn c_session_First)
  | 76 => some (.fn c_slices_IndexFunc_Member)
  | 60 => some (.fn c_slices_ContainsFunc_Member)
  | 41 => some (.fn c_roster_role)
  | 61 => some (.fn c_roster_May_1)
  | 27 => some (.fn c_roster_May)
  | 67 => some (.fn c_slices_BinarySearchFunc_Member_int)
  | 68 => some (.fn c_roster_place_1)
  | 42 => some (.fn c_roster_place)
  | 23 => some (.fn c_roster_Find)
  | 62 => some (.fn c_token_number)
  | 28 => some (.fn c_token_May)
  | 63 => some (.fn c_merge_piece)
  | 29 => some (.fn c_merge_May)
  | 82 => some (.fn c_size_side)
  | 64 => some (.fn c_size_window)
  | 30 => some (.fn c_size_May)
  | 31 => some (.fn c_session_writes)
  | 65 => some (.fn c_slices_IndexFunc_int)
  | 32 => some (.fn c_slices_ContainsFunc_int)
  | 33 => some (.fn c_session_May_1)
  | 66 => some (.fn c_slices_IndexFunc_Typed)
  | 34 => some (.fn c_slices_ContainsFunc_Typed)
  | 35 => some (.fn c_session_May_2)
  | 14 => some (.fn c_session_May)
  | 43 => some (.ext (extInsert 2))
  | 44 => some (.ext (extClone 2))
  | 19 => some (.fn c_roster_Join)
  | 88 => some (.ext (extClone 1))
  | 59 => some (.fn c_merge_copied)
  | 26 => some (.fn c_merge_Pop)
  | 58 => some (.ext (extClone 1))
  | 25 => some (.fn c_session_copied)
  | 71 => some (.fn c_slices_DeleteFunc_Typed)
  | 72 => some (.fn c_merge_Drop_1)
  | 45 => some (.fn c_merge_Drop)
  | 98 => some (.fn c_token_arbiter_on)
  | 84 => some (.fn c_token_change)
  | 97 => some (.fn c_slices_Index_int)
  | 91 => some (.fn c_slices_Contains_int)
  | 90 => some (.fn c_token_Keep_1)
  | 93 => some (.fn c_slices_DeleteFunc_int)
  | 92 => some (.fn c_token_Keep_2)
  | 73 => some (.fn c_token_Keep)
  | 74 => some (.fn c_roster_Writers)
  | 81 => some (.fn c_size_member)
  | 75 => some (.fn c_size_Least)
  | 46 => some (.fn c_session_settled)
  | 20 => some (.fn c_session_with)
  | 8 => some (.fn c_session_Join)
  | 47 => some (.fn c_slices_DeleteFunc_Member)
  | 48 => some (.fn c_roster_Leave_1)
  | 21 => some (.fn c_roster_Leave)
  | 9 => some (.fn c_session_Leave)
  | 22 => some (.fn c_roster_Change)
  | 10 => some (.fn c_session_Change)
  | 94 => some (.fn c_slices_IndexFunc_Deed)
  | 77 => some (.fn c_slices_ContainsFunc_Deed)
  | 95 => some (.fn c_input_may_1)
  | 79 => some (.fn c_input_may)
  | 78 => some (.fn c_input_May_1)
  | 49 => some (.fn c_input_May)
  | 80 => some (.ext (extSize))
  | 51 => some (.fn c_merge_Push)
  | 50 => some (.fn c_session_does_1)
  | 53 => some (.fn c_size_Set)
  | 52 => some (.fn c_session_does_2)
  | 83 => some (.fn c_token_Place)
  | 85 => some (.fn c_token_Ask_1)
  | 55 => some (.fn c_token_Ask)
  | 54 => some (.fn c_session_does_3)
  | 87 => some (.fn c_slices_Delete_int)
  | 86 => some (.fn c_token_Free_1)
  | 57 => some (.fn c_token_Free)
  | 56 => some (.fn c_session_does_4)
  | 24 => some (.fn c_session_does)
  | 11 => some (.fn c_session_Take)
  | 13 => some (.fn c_session_Write)
  | 6 => some (.fn c_law30_known)
  | 12 => some (.fn c_law30_bytes)
  | 15 => some (.fn c_law30_role)
  | 16 => some (.fn c_law30_least)
  | 3 => some (.fn c_law30_SessionRights)
  | _ => none
variable (G : Nat → Option (List AV)) (args : List AV) (h : List ARow)
theorem run_session_First : aR G FT n_session_First args h = (aE G FT h.length c_session_First.body ⟨aenter args, h⟩).bind (afinish c_session_First.res) := y_fn G FT rfl args h
theorem run_slices_IndexFunc_Member : aR G FT n_slices_IndexFunc_Member args h = (aE G FT h.length c_slices_IndexFunc_Member.body ⟨aenter args, h⟩).bind (afinish c_slices_IndexFunc_Member.res) := y_fn G FT rfl args h
theorem run_slices_ContainsFunc_Member : aR G FT n_slices_ContainsFunc_Member args h = (aE G FT h.length c_slices_ContainsFunc_Member.body ⟨aenter args, h⟩).bind (afinish c_slices_ContainsFunc_Member.res) := y_fn G FT rfl args h
theorem run_roster_role : aR G FT n_roster_role args h = (aE G FT h.length c_roster_role.body ⟨aenter args, h⟩).bind (afinish c_roster_role.res) := y_fn G FT rfl args h
theorem run_roster_May_1 : aR G FT n_roster_May_1 args h = (aE G FT h.length c_roster_May_1.body ⟨aenter args, h⟩).bind (afinish c_roster_May_1.res) := y_fn G FT rfl args h
theorem run_roster_May : aR G FT n_roster_May args h = (aE G FT h.length c_roster_May.body ⟨aenter args, h⟩).bind (afinish c_roster_May.res) := y_fn G FT rfl args h
theorem run_slices_BinarySearchFunc_Member_int : aR G FT n_slices_BinarySearchFunc_Member_int args h = (aE G FT h.length c_slices_BinarySearchFunc_Member_int.body ⟨aenter args, h⟩).bind (afinish c_slices_BinarySearchFunc_Member_int.res) := y_fn G FT rfl args h
theorem run_roster_place_1 : aR G FT n_roster_place_1 args h = (aE G FT h.length c_roster_place_1.body ⟨aenter args, h⟩).bind (afinish c_roster_place_1.res) := y_fn G FT rfl args h
theorem run_roster_place : aR G FT n_roster_place args h = (aE G FT h.length c_roster_place.body ⟨aenter args, h⟩).bind (afinish c_roster_place.res) := y_fn G FT rfl args h
theorem run_roster_Find : aR G FT n_roster_Find args h = (aE G FT h.length c_roster_Find.body ⟨aenter args, h⟩).bind (afinish c_roster_Find.res) := y_fn G FT rfl args h
theorem run_token_number : aR G FT n_token_number args h = (aE G FT h.length c_token_number.body ⟨aenter args, h⟩).bind (afinish c_token_number.res) := y_fn G FT rfl args h
theorem run_token_May : aR G FT n_token_May args h = (aE G FT h.length c_token_May.body ⟨aenter args, h⟩).bind (afinish c_token_May.res) := y_fn G FT rfl args h
theorem run_size_side : aR G FT n_size_side args h = (aE G FT h.length c_size_side.body ⟨aenter args, h⟩).bind (afinish c_size_side.res) := y_fn G FT rfl args h
theorem run_size_window : aR G FT n_size_window args h = (aE G FT h.length c_size_window.body ⟨aenter args, h⟩).bind (afinish c_size_window.res) := y_fn G FT rfl args h
theorem run_size_May : aR G FT n_size_May args h = (aE G FT h.length c_size_May.body ⟨aenter args, h⟩).bind (afinish c_size_May.res) := y_fn G FT rfl args h
theorem run_session_writes : aR G FT n_session_writes args h = (aE G FT h.length c_session_writes.body ⟨aenter args, h⟩).bind (afinish c_session_writes.res) := y_fn G FT rfl args h
theorem run_slices_IndexFunc_int : aR G FT n_slices_IndexFunc_int args h = (aE G FT h.length c_slices_IndexFunc_int.body ⟨aenter args, h⟩).bind (afinish c_slices_IndexFunc_int.res) := y_fn G FT rfl args h
theorem run_slices_ContainsFunc_int : aR G FT n_slices_ContainsFunc_int args h = (aE G FT h.length c_slices_ContainsFunc_int.body ⟨aenter args, h⟩).bind (afinish c_slices_ContainsFunc_int.res) := y_fn G FT rfl args h
theorem run_session_May_1 : aR G FT n_session_May_1 args h = (aE G FT h.length c_session_May_1.body ⟨aenter args, h⟩).bind (afinish c_session_May_1.res) := y_fn G FT rfl args h
theorem run_slices_IndexFunc_Typed : aR G FT n_slices_IndexFunc_Typed args h = (aE G FT h.length c_slices_IndexFunc_Typed.body ⟨aenter args, h⟩).bind (afinish c_slices_IndexFunc_Typed.res) := y_fn G FT rfl args h
theorem run_slices_ContainsFunc_Typed : aR G FT n_slices_ContainsFunc_Typed args h = (aE G FT h.length c_slices_ContainsFunc_Typed.body ⟨aenter args, h⟩).bind (afinish c_slices_ContainsFunc_Typed.res) := y_fn G FT rfl args h
theorem run_session_May_2 : aR G FT n_session_May_2 args h = (aE G FT h.length c_session_May_2.body ⟨aenter args, h⟩).bind (afinish c_session_May_2.res) := y_fn G FT rfl args h
theorem run_session_May : aR G FT n_session_May args h = (aE G FT h.length c_session_May.body ⟨aenter args, h⟩).bind (afinish c_session_May.res) := y_fn G FT rfl args h
theorem run_roster_Join : aR G FT n_roster_Join args h = (aE G FT h.length c_roster_Join.body ⟨aenter args, h⟩).bind (afinish c_roster_Join.res) := y_fn G FT rfl args h
theorem run_merge_copied : aR G FT n_merge_copied args h = (aE G FT h.length c_merge_copied.body ⟨aenter args, h⟩).bind (afinish c_merge_copied.res) := y_fn G FT rfl args h
theorem run_merge_Pop : aR G FT n_merge_Pop args h = (aE G FT h.length c_merge_Pop.body ⟨aenter args, h⟩).bind (afinish c_merge_Pop.res) := y_fn G FT rfl args h
theorem run_session_copied : aR G FT n_session_copied args h = (aE G FT h.length c_session_copied.body ⟨aenter args, h⟩).bind (afinish c_session_copied.res) := y_fn G FT rfl args h
theorem run_slices_DeleteFunc_Typed : aR G FT n_slices_DeleteFunc_Typed args h = (aE G FT h.length c_slices_DeleteFunc_Typed.body ⟨aenter args, h⟩).bind (afinish c_slices_DeleteFunc_Typed.res) := y_fn G FT rfl args h
theorem run_merge_Drop_1 : aR G FT n_merge_Drop_1 args h = (aE G FT h.length c_merge_Drop_1.body ⟨aenter args, h⟩).bind (afinish c_merge_Drop_1.res) := y_fn G FT rfl args h
theorem run_merge_Drop : aR G FT n_merge_Drop args h = (aE G FT h.length c_merge_Drop.body ⟨aenter args, h⟩).bind (afinish c_merge_Drop.res) := y_fn G FT rfl args h
theorem run_token_arbiter_on : aR G FT n_token_arbiter_on args h = (aE G FT h.length c_token_arbiter_on.body ⟨aenter args, h⟩).bind (afinish c_token_arbiter_on.res) := y_fn G FT rfl args h
theorem run_token_change : aR G FT n_token_change args h = (aE G FT h.length c_token_change.body ⟨aenter args, h⟩).bind (afinish c_token_change.res) := y_fn G FT rfl args h
theorem run_slices_Index_int : aR G FT n_slices_Index_int args h = (aE G FT h.length c_slices_Index_int.body ⟨aenter args, h⟩).bind (afinish c_slices_Index_int.res) := y_fn G FT rfl args h
theorem run_slices_Contains_int : aR G FT n_slices_Contains_int args h = (aE G FT h.length c_slices_Contains_int.body ⟨aenter args, h⟩).bind (afinish c_slices_Contains_int.res) := y_fn G FT rfl args h
theorem run_token_Keep_1 : aR G FT n_token_Keep_1 args h = (aE G FT h.length c_token_Keep_1.body ⟨aenter args, h⟩).bind (afinish c_token_Keep_1.res) := y_fn G FT rfl args h
theorem run_slices_DeleteFunc_int : aR G FT n_slices_DeleteFunc_int args h = (aE G FT h.length c_slices_DeleteFunc_int.body ⟨aenter args, h⟩).bind (afinish c_slices_DeleteFunc_int.res) := y_fn G FT rfl args h
theorem run_token_Keep_2 : aR G FT n_token_Keep_2 args h = (aE G FT h.length c_token_Keep_2.body ⟨aenter args, h⟩).bind (afinish c_token_Keep_2.res) := y_fn G FT rfl args h
theorem run_token_Keep : aR G FT n_token_Keep args h = (aE G FT h.length c_token_Keep.body ⟨aenter args, h⟩).bind (afinish c_token_Keep.res) := y_fn G FT rfl args h
theorem run_roster_Writers : aR G FT n_roster_Writers args h = (aE G FT h.length c_roster_Writers.body ⟨aenter args, h⟩).bind (afinish c_roster_Writers.res) := y_fn G FT rfl args h
theorem run_size_member : aR G FT n_size_member args h = (aE G FT h.length c_size_member.body ⟨aenter args, h⟩).bind (afinish c_size_member.res) := y_fn G FT rfl args h
theorem run_size_Least : aR G FT n_size_Least args h = (aE G FT h.length c_size_Least.body ⟨aenter args, h⟩).bind (afinish c_size_Least.res) := y_fn G FT rfl args h
theorem run_session_settled : aR G FT n_session_settled args h = (aE G FT h.length c_session_settled.body ⟨aenter args, h⟩).bind (afinish c_session_settled.res) := y_fn G FT rfl args h
theorem run_session_with : aR G FT n_session_with args h = (aE G FT h.length c_session_with.body ⟨aenter args, h⟩).bind (afinish c_session_with.res) := y_fn G FT rfl args h
theorem run_session_Join : aR G FT n_session_Join args h = (aE G FT h.length c_session_Join.body ⟨aenter args, h⟩).bind (afinish c_session_Join.res) := y_fn G FT rfl args h
theorem run_slices_DeleteFunc_Member : aR G FT n_slices_DeleteFunc_Member args h = (aE G FT h.length c_slices_DeleteFunc_Member.body ⟨aenter args, h⟩).bind (afinish c_slices_DeleteFunc_Member.res) := y_fn G FT rfl args h
theorem run_roster_Leave_1 : aR G FT n_roster_Leave_1 args h = (aE G FT h.length c_roster_Leave_1.body ⟨aenter args, h⟩).bind (afinish c_roster_Leave_1.res) := y_fn G FT rfl args h
theorem run_roster_Leave : aR G FT n_roster_Leave args h = (aE G FT h.length c_roster_Leave.body ⟨aenter args, h⟩).bind (afinish c_roster_Leave.res) := y_fn G FT rfl args h
theorem run_session_Leave : aR G FT n_session_Leave args h = (aE G FT h.length c_session_Leave.body ⟨aenter args, h⟩).bind (afinish c_session_Leave.res) := y_fn G FT rfl args h
theorem run_roster_Change : aR G FT n_roster_Change args h = (aE G FT h.length c_roster_Change.body ⟨aenter args, h⟩).bind (afinish c_roster_Change.res) := y_fn G FT rfl args h
theorem run_session_Change : aR G FT n_session_Change args h = (aE G FT h.length c_session_Change.body ⟨aenter args, h⟩).bind (afinish c_session_Change.res) := y_fn G FT rfl args h
theorem run_slices_IndexFunc_Deed : aR G FT n_slices_IndexFunc_Deed args h = (aE G FT h.length c_slices_IndexFunc_Deed.body ⟨aenter args, h⟩).bind (afinish c_slices_IndexFunc_Deed.res) := y_fn G FT rfl args h
theorem run_slices_ContainsFunc_Deed : aR G FT n_slices_ContainsFunc_Deed args h = (aE G FT h.length c_slices_ContainsFunc_Deed.body ⟨aenter args, h⟩).bind (afinish c_slices_ContainsFunc_Deed.res) := y_fn G FT rfl args h
theorem run_input_may_1 : aR G FT n_input_may_1 args h = (aE G FT h.length c_input_may_1.body ⟨aenter args, h⟩).bind (afinish c_input_may_1.res) := y_fn G FT rfl args h
theorem run_input_may : aR G FT n_input_may args h = (aE G FT h.length c_input_may.body ⟨aenter args, h⟩).bind (afinish c_input_may.res) := y_fn G FT rfl args h
theorem run_input_May_1 : aR G FT n_input_May_1 args h = (aE G FT h.length c_input_May_1.body ⟨aenter args, h⟩).bind (afinish c_input_May_1.res) := y_fn G FT rfl args h
theorem run_input_May : aR G FT n_input_May args h = (aE G FT h.length c_input_May.body ⟨aenter args, h⟩).bind (afinish c_input_May.res) := y_fn G FT rfl args h
theorem run_merge_Push : aR G FT n_merge_Push args h = (aE G FT h.length c_merge_Push.body ⟨aenter args, h⟩).bind (afinish c_merge_Push.res) := y_fn G FT rfl args h
theorem run_session_does_1 : aR G FT n_session_does_1 args h = (aE G FT h.length c_session_does_1.body ⟨aenter args, h⟩).bind (afinish c_session_does_1.res) := y_fn G FT rfl args h
theorem run_size_Set : aR G FT n_size_Set args h = (aE G FT h.length c_size_Set.body ⟨aenter args, h⟩).bind (afinish c_size_Set.res) := y_fn G FT rfl args h
theorem run_session_does_2 : aR G FT n_session_does_2 args h = (aE G FT h.length c_session_does_2.body ⟨aenter args, h⟩).bind (afinish c_session_does_2.res) := y_fn G FT rfl args h
theorem run_token_Place : aR G FT n_token_Place args h = (aE G FT h.length c_token_Place.body ⟨aenter args, h⟩).bind (afinish c_token_Place.res) := y_fn G FT rfl args h
theorem run_token_Ask_1 : aR G FT n_token_Ask_1 args h = (aE G FT h.length c_token_Ask_1.body ⟨aenter args, h⟩).bind (afinish c_token_Ask_1.res) := y_fn G FT rfl args h
theorem run_token_Ask : aR G FT n_token_Ask args h = (aE G FT h.length c_token_Ask.body ⟨aenter args, h⟩).bind (afinish c_token_Ask.res) := y_fn G FT rfl args h
theorem run_session_does_3 : aR G FT n_session_does_3 args h = (aE G FT h.length c_session_does_3.body ⟨aenter args, h⟩).bind (afinish c_session_does_3.res) := y_fn G FT rfl args h
theorem run_slices_Delete_int : aR G FT n_slices_Delete_int args h = (aE G FT h.length c_slices_Delete_int.body ⟨aenter args, h⟩).bind (afinish c_slices_Delete_int.res) := y_fn G FT rfl args h
theorem run_token_Free_1 : aR G FT n_token_Free_1 args h = (aE G FT h.length c_token_Free_1.body ⟨aenter args, h⟩).bind (afinish c_token_Free_1.res) := y_fn G FT rfl args h
theorem run_token_Free : aR G FT n_token_Free args h = (aE G FT h.length c_token_Free.body ⟨aenter args, h⟩).bind (afinish c_token_Free.res) := y_fn G FT rfl args h
theorem run_session_does_4 : aR G FT n_session_does_4 args h = (aE G FT h.length c_session_does_4.body ⟨aenter args, h⟩).bind (afinish c_session_does_4.res) := y_fn G FT rfl args h
theorem run_session_does : aR G FT n_session_does args h = (aE G FT h.length c_session_does.body ⟨aenter args, h⟩).bind (afinish c_session_does.res) := y_fn G FT rfl args h
theorem run_session_Take : aR G FT n_session_Take args h = (aE G FT h.length c_session_Take.body ⟨aenter args, h⟩).bind (afinish c_session_Take.res) := y_fn G FT rfl args h
theorem run_session_Write : aR G FT n_session_Write args h = (aE G FT h.length c_session_Write.body ⟨aenter args, h⟩).bind (afinish c_session_Write.res) := y_fn G FT rfl args h
theorem run_law30_bytes : aR G FT n_law30_bytes args h = (aE G FT h.length c_law30_bytes.body ⟨aenter args, h⟩).bind (afinish c_law30_bytes.res) := y_fn G FT rfl args h
theorem run_law30_role : aR G FT n_law30_role args h = (aE G FT h.length c_law30_role.body ⟨aenter args, h⟩).bind (afinish c_law30_role.res) := y_fn G FT rfl args h
theorem run_law30_least : aR G FT n_law30_least args h = (aE G FT h.length c_law30_least.body ⟨aenter args, h⟩).bind (afinish c_law30_least.res) := y_fn G FT rfl args h
theorem run_law30_SessionRights : aR G FT n_law30_SessionRights args h = (aE G FT h.length c_law30_SessionRights.body ⟨aenter args, h⟩).bind (afinish c_law30_SessionRights.res) := y_fn G FT rfl args h
end Go.Proofs.Ythcnhibjddomdaa
