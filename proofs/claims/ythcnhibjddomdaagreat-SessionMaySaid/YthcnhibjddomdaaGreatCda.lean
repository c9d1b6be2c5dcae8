/- The small machine's code of the seat's functions. Conditions: none. -/
import Derived.Test.YthcnhibjddomdaaGreatM3
set_option linter.unusedVariables false
set_option linter.unusedSimpArgs false
set_option linter.unusedSectionVars false
namespace Go.Proofs.YthcnhibjddomdaaGreat
open Go

def n_bytes_Clone : Nat := 121
def n_bytes_Equal : Nat := 62
def n_input_May : Nat := 74
def n_input_May_1 : Nat := 111
def n_input_may : Nat := 112
def n_input_may_1 : Nat := 129
def n_law30_SessionMay : Nat := 4
def n_law30_great : Nat := 6
def n_law30_known : Nat := 5
def n_merge_Drop : Nat := 70
def n_merge_Drop_1 : Nat := 105
def n_merge_May : Nat := 54
def n_merge_Pop : Nat := 33
def n_merge_Push : Nat := 76
def n_merge_Size : Nat := 113
def n_merge_copied : Nat := 84
def n_merge_piece : Nat := 96
def n_ref20_List : Nat := 85
def n_ref26_May : Nat := 36
def n_ref26_Role : Nat := 41
def n_ref26_Same : Nat := 34
def n_ref27_All : Nat := 40
def n_ref27_Has : Nat := 86
def n_ref27_May : Nat := 37
def n_ref27_Same : Nat := 35
def n_ref28_Copy : Nat := 25
def n_ref28_May : Nat := 38
def n_ref28_Piece : Nat := 87
def n_ref28_Same : Nat := 21
def n_ref28_Size : Nat := 48
def n_ref29_May : Nat := 39
def n_ref30_Copy : Nat := 7
def n_ref30_May : Nat := 14
def n_ref30_Same : Nat := 13
def n_roster_Change : Nat := 29
def n_roster_Find : Nat := 30
def n_roster_Join : Nat := 26
def n_roster_Leave : Nat := 28
def n_roster_Leave_1 : Nat := 73
def n_roster_May : Nat := 52
def n_roster_May_1 : Nat := 94
def n_roster_Writers : Nat := 107
def n_roster_place : Nat := 67
def n_roster_place_1 : Nat := 101
def n_roster_role : Nat := 66
def n_session_Change : Nat := 10
def n_session_First : Nat := 24
def n_session_Join : Nat := 8
def n_session_Leave : Nat := 9
def n_session_May : Nat := 22
def n_session_May_1 : Nat := 58
def n_session_May_2 : Nat := 60
def n_session_Same : Nat := 23
def n_session_Same_1 : Nat := 61
def n_session_Take : Nat := 11
def n_session_Write : Nat := 12
def n_session_copied : Nat := 32
def n_session_does : Nat := 31
def n_session_does_1 : Nat := 75
def n_session_does_2 : Nat := 77
def n_session_does_3 : Nat := 79
def n_session_does_4 : Nat := 81
def n_session_settled : Nat := 71
def n_session_with : Nat := 27
def n_session_writes : Nat := 56
def n_size_Least : Nat := 108
def n_size_May : Nat := 55
def n_size_Set : Nat := 78
def n_size_member : Nat := 114
def n_size_side : Nat := 115
def n_size_window : Nat := 97
def n_slices_BinarySearchFunc_Member_int : Nat := 100
def n_slices_Clone_Member : Nat := 69
def n_slices_Clone_int : Nat := 83
def n_slices_ContainsFunc_Deed : Nat := 110
def n_slices_ContainsFunc_Member : Nat := 93
def n_slices_ContainsFunc_Typed : Nat := 59
def n_slices_ContainsFunc_int : Nat := 57
def n_slices_Contains_int : Nat := 125
def n_slices_DeleteFunc_Member : Nat := 72
def n_slices_DeleteFunc_Typed : Nat := 104
def n_slices_DeleteFunc_int : Nat := 127
def n_slices_Delete_int : Nat := 120
def n_slices_EqualFunc_LTyped_LTyped_Typed_Typed : Nat := 65
def n_slices_Equal_Member : Nat := 63
def n_slices_Equal_int : Nat := 64
def n_slices_IndexFunc_Deed : Nat := 128
def n_slices_IndexFunc_Member : Nat := 109
def n_slices_IndexFunc_Typed : Nat := 99
def n_slices_IndexFunc_int : Nat := 98
def n_slices_Index_int : Nat := 131
def n_slices_Insert_Member : Nat := 68
def n_slices_overlaps_Member : Nat := 102
def n_slices_rotateRight_Member : Nat := 103
def n_token_Ask : Nat := 80
def n_token_Ask_1 : Nat := 118
def n_token_Free : Nat := 82
def n_token_Free_1 : Nat := 119
def n_token_Keep : Nat := 106
def n_token_Keep_1 : Nat := 124
def n_token_Keep_2 : Nat := 126
def n_token_May : Nat := 53
def n_token_Place : Nat := 116
def n_token_arbiter_on : Nat := 132
def n_token_change : Nat := 117
def n_token_number : Nat := 95
/- slices.IndexFunc[[]oriel/api.Member,oriel/api.Member] -/
def q109R0 : List AOper := [⟨some 4, none, .mov (.const (.int .i64 0))⟩]
def q109R1 : List AOper := [⟨some 6, none, .mov (.slot 0)⟩,
  ⟨some 7, none, .len false (.slot 6)⟩,
  ⟨some 8, none, .mov (.const (.int .i64 0))⟩]
def q109R2 : List AOper := [⟨some 9, none, .bin .lss (.slot 8) (.slot 7)⟩]
def q109R3 : List AOper := [⟨some 10, none, .mov (.slot 8)⟩,
  ⟨some 5, none, .mov (.slot 10)⟩]
def q109R4 : List AOper := [⟨some 11, none, .mov (.slot 1)⟩,
  ⟨some 12, none, .mov (.slot 0)⟩,
  ⟨some 13, none, .mov (.slot 5)⟩,
  ⟨some 14, none, .idx 2 (.slot 12) (.slot 13)⟩,
  ⟨some 15, none, .load true 2 (.slot 14)⟩,
  ⟨some 16, none, .callv (.slot 11) [(.slot 15)]⟩]
def q109R5 : List AOper := [⟨some 17, none, .mov (.slot 5)⟩,
  ⟨some 4, none, .mov (.slot 17)⟩]
def q109R6 : List AOper := [⟨some 18, none, .bin .add (.slot 8) (.const (.int .i64 1))⟩,
  ⟨some 8, none, .mov (.slot 18)⟩]
def c_slices_IndexFunc_Member_L0 : ACode := (.seq (.region q109R2 false [0, 1, 7, 8, 9]) (.seq (.cond (.slot 9) .skip (.exit 0)) (.seq (.block 1 (.seq (.region q109R3 false [0, 1, 5, 7, 8]) (.seq (.region q109R4 false [0, 1, 5, 7, 8, 16]) (.cond (.slot 16) (.seq (.region q109R5 false [4]) .ret) .skip)))) (.region q109R6 false [0, 1, 7, 8]))))
def lp_slices_IndexFunc_Member_0 : ACode := .loop [0, 1, 7, 8] c_slices_IndexFunc_Member_L0
def q109R7 : List AOper := [⟨some 4, none, .mov (.const (.int .i64 (-1)))⟩]
def c_slices_IndexFunc_Member : AFn := ⟨(.seq (.region q109R0 false [0, 1]) (.seq (.seq (.region q109R1 false [0, 1, 7, 8]) (.block 0 lp_slices_IndexFunc_Member_0)) (.seq (.region q109R7 false [4]) .ret))), [.slot 4]⟩
/- slices.ContainsFunc[[]oriel/api.Member,oriel/api.Member] -/
def q97R0 : List AOper := [⟨some 4, none, .mov (.const (.bool false))⟩]
def q97R1 : List AOper := [⟨some 5, none, .mov (.slot 0)⟩,
  ⟨some 6, none, .mov (.slot 1)⟩,
  ⟨some 7, none, .call .inl n_slices_IndexFunc_Member [(.slot 5), (.slot 6)]⟩,
  ⟨some 8, none, .bin .geq (.slot 7) (.const (.int .i64 0))⟩,
  ⟨some 4, none, .mov (.slot 8)⟩]
def c_slices_ContainsFunc_Member : AFn := ⟨(.seq (.region q97R0 false [0, 1]) (.seq (.region q97R1 false [4]) .ret)), [.slot 4]⟩
/- oriel/roster.role -/
def q66R0 : List AOper := [⟨some 2, none, .mov (.const (.bool false))⟩]
def q66R1 : List AOper := [⟨some 3, none, .mov (.slot 0)⟩,
  ⟨some 4, none, .bin .eql (.slot 3) (.const (.int .i64 1))⟩,
  ⟨some 5, none, .mov (.slot 4)⟩,
  ⟨some 6, some (5, false), .mov (.slot 0)⟩,
  ⟨some 7, some (5, false), .bin .eql (.slot 6) (.const (.int .i64 2))⟩,
  ⟨some 8, none, .pick (.slot 5) (.const (.bool true)) (.slot 7)⟩,
  ⟨some 2, none, .mov (.slot 8)⟩]
def c_roster_role : AFn := ⟨(.seq (.region q66R0 false [0]) (.seq (.region q66R1 false [2]) .ret)), [.slot 2]⟩
/- oriel/roster.May'1 -/
def q62R0 : List AOper := [⟨some 2, none, .box 2 (.slot 0)⟩,
  ⟨some 3, none, .mov (.const (.bool false))⟩]
def q62R1 : List AOper := [⟨some 5, none, .faddr 0 (.slot 2)⟩,
  ⟨some 6, none, .load false 1 (.slot 5)⟩,
  ⟨some 7, none, .load false 1 (.slot 1)⟩,
  ⟨some 8, none, .bin .leq (.slot 6) (.slot 7)⟩,
  ⟨some 9, none, .mov (.slot 8)⟩,
  ⟨some 10, some (9, false), .faddr 0 (.slot 2)⟩,
  ⟨some 11, some (9, false), .load false 1 (.slot 10)⟩,
  ⟨some 12, some (9, false), .bin .gtr (.slot 11) (.const (.int .i64 8))⟩,
  ⟨some 13, none, .pick (.slot 9) (.const (.bool true)) (.slot 12)⟩,
  ⟨some 14, none, .mov (.slot 13)⟩,
  ⟨some 15, some (14, false), .faddr 1 (.slot 2)⟩,
  ⟨some 16, some (14, false), .load false 1 (.slot 15)⟩,
  ⟨some 17, some (14, false), .call .frz n_roster_role [(.slot 16)]⟩,
  ⟨some 18, some (14, false), .not (.slot 17)⟩,
  ⟨some 19, none, .pick (.slot 14) (.const (.bool true)) (.slot 18)⟩,
  ⟨some 4, none, .mov (.slot 19)⟩]
def q62R2 : List AOper := [⟨some 20, none, .faddr 0 (.slot 2)⟩,
  ⟨some 21, none, .load false 1 (.slot 20)⟩,
  ⟨none, none, .store false 1 (.slot 1) (.slot 21)⟩]
def q62R3 : List AOper := [⟨some 22, none, .mov (.slot 4)⟩,
  ⟨some 3, none, .mov (.slot 22)⟩]
def c_roster_May_1 : AFn := ⟨(.seq (.region q62R0 false [1, 2]) (.seq (.region q62R1 false [1, 2, 4]) (.seq (.region q62R2 false [4]) (.seq (.region q62R3 false [3]) .ret)))), [.slot 3]⟩
/- oriel/roster.May -/
def q61R0 : List AOper := [⟨some 2, none, .mov (.const (.bool false))⟩]
def q61R1 : List AOper := [⟨some 3, none, .alloc [.int .i64 0]⟩,
  ⟨none, none, .store false 1 (.slot 3) (.const (.int .i64 0))⟩]
def q61R2 : List AOper := [⟨some 4, none, .mov (.slot 0)⟩,
  ⟨some 5, none, .mkfn (.func n_roster_May_1) [] [(.slot 3)]⟩,
  ⟨some 6, none, .call .inl n_slices_ContainsFunc_Member [(.slot 4), (.slot 5)]⟩,
  ⟨some 7, none, .not (.slot 6)⟩,
  ⟨some 2, none, .mov (.slot 7)⟩]
def c_roster_May : AFn := ⟨(.seq (.region q61R0 false [0]) (.seq (.region q61R1 false [0, 3]) (.seq (.region q61R2 false [2]) .ret))), [.slot 2]⟩
/- slices.BinarySearchFunc[[]oriel/api.Member,oriel/api.Member,int] -/
def q93R0 : List AOper := [⟨some 6, none, .mov (.const (.int .i64 0))⟩,
  ⟨some 7, none, .mov (.const (.bool false))⟩]
def q93R1 : List AOper := [⟨some 12, none, .mov (.slot 0)⟩,
  ⟨some 13, none, .len false (.slot 12)⟩,
  ⟨some 8, none, .mov (.slot 13)⟩]
def q93R2 : List AOper := [⟨some 14, none, .mov (.slot 8)⟩,
  ⟨some 9, none, .mov (.const (.int .i64 0))⟩,
  ⟨some 10, none, .mov (.slot 14)⟩]
def q93R3 : List AOper := [⟨some 15, none, .mov (.slot 9)⟩,
  ⟨some 16, none, .mov (.slot 10)⟩,
  ⟨some 17, none, .bin .lss (.slot 15) (.slot 16)⟩]
def q93R4 : List AOper := [⟨some 18, none, .mov (.slot 9)⟩,
  ⟨some 19, none, .mov (.slot 10)⟩,
  ⟨some 20, none, .bin .add (.slot 18) (.slot 19)⟩,
  ⟨some 21, none, .conv .u64 (.slot 20)⟩,
  ⟨some 22, none, .bin .shr (.slot 21) (.const (.int .u64 1))⟩,
  ⟨some 23, none, .conv .i64 (.slot 22)⟩,
  ⟨some 11, none, .mov (.slot 23)⟩]
def q93R5 : List AOper := [⟨some 24, none, .mov (.slot 2)⟩,
  ⟨some 25, none, .mov (.slot 0)⟩,
  ⟨some 26, none, .mov (.slot 11)⟩,
  ⟨some 27, none, .idx 2 (.slot 25) (.slot 26)⟩,
  ⟨some 28, none, .load true 2 (.slot 27)⟩,
  ⟨some 29, none, .mov (.slot 1)⟩,
  ⟨some 30, none, .callv (.slot 24) [(.slot 28), (.slot 29)]⟩,
  ⟨some 31, none, .bin .lss (.slot 30) (.const (.int .i64 0))⟩]
def q93R6 : List AOper := [⟨some 32, none, .mov (.slot 11)⟩,
  ⟨some 33, none, .bin .add (.slot 32) (.const (.int .i64 1))⟩,
  ⟨some 9, none, .mov (.slot 33)⟩]
def q93R7 : List AOper := [⟨some 34, none, .mov (.slot 11)⟩,
  ⟨some 10, none, .mov (.slot 34)⟩]
def c_slices_BinarySearchFunc_Member_int_L0 : ACode := (.seq (.seq (.region q93R3 false [0, 1, 2, 8, 9, 10, 17]) (.cond (.slot 17) .skip (.exit 0))) (.block 1 (.seq (.region q93R4 false [0, 1, 2, 8, 9, 10, 11]) (.seq (.region q93R5 false [0, 1, 2, 8, 9, 10, 11, 31]) (.cond (.slot 31) (.region q93R6 false [0, 1, 2, 8, 9, 10]) (.region q93R7 false [0, 1, 2, 8, 9, 10]))))))
def lp_slices_BinarySearchFunc_Member_int_0 : ACode := .loop [0, 1, 2, 8, 9, 10] c_slices_BinarySearchFunc_Member_int_L0
def q93R8 : List AOper := [⟨some 35, none, .mov (.slot 9)⟩,
  ⟨some 36, none, .mov (.slot 9)⟩,
  ⟨some 37, none, .mov (.slot 8)⟩,
  ⟨some 38, none, .bin .lss (.slot 36) (.slot 37)⟩,
  ⟨some 39, none, .mov (.slot 38)⟩,
  ⟨some 40, some (39, true), .mov (.slot 2)⟩,
  ⟨some 41, some (39, true), .mov (.slot 0)⟩,
  ⟨some 42, some (39, true), .mov (.slot 9)⟩,
  ⟨some 43, some (39, true), .idx 2 (.slot 41) (.slot 42)⟩,
  ⟨some 44, some (39, true), .load true 2 (.slot 43)⟩,
  ⟨some 45, some (39, true), .mov (.slot 1)⟩,
  ⟨some 46, some (39, true), .callv (.slot 40) [(.slot 44), (.slot 45)]⟩,
  ⟨some 47, some (39, true), .bin .eql (.slot 46) (.const (.int .i64 0))⟩,
  ⟨some 48, none, .pick (.slot 39) (.slot 47) (.const (.bool false))⟩,
  ⟨some 6, none, .mov (.slot 35)⟩,
  ⟨some 7, none, .mov (.slot 48)⟩]
def c_slices_BinarySearchFunc_Member_int : AFn := ⟨(.seq (.region q93R0 false [0, 1, 2]) (.seq (.region q93R1 false [0, 1, 2, 8]) (.seq (.region q93R2 false [0, 1, 2, 8, 9, 10]) (.seq (.block 0 lp_slices_BinarySearchFunc_Member_int_0) (.seq (.region q93R8 false [6, 7]) .ret))))), [.slot 6, .slot 7]⟩
/- oriel/roster.place'1 -/
def q65R0 : List AOper := [⟨some 2, none, .box 2 (.slot 0)⟩,
  ⟨some 4, none, .mov (.const (.int .i64 0))⟩]
def q65R1 : List AOper := [⟨some 5, none, .faddr 0 (.slot 2)⟩,
  ⟨some 6, none, .load false 1 (.slot 5)⟩,
  ⟨some 7, none, .mov (.slot 1)⟩,
  ⟨some 8, none, .bin .sub (.slot 6) (.slot 7)⟩,
  ⟨some 4, none, .mov (.slot 8)⟩]
def c_roster_place_1 : AFn := ⟨(.seq (.region q65R0 false [1, 2]) (.seq (.region q65R1 false [4]) .ret)), [.slot 4]⟩
/- oriel/roster.place -/
def q64R0 : List AOper := [⟨some 4, none, .mov (.const (.int .i64 0))⟩,
  ⟨some 5, none, .mov (.const (.bool false))⟩]
def q64R1 : List AOper := [⟨some 6, none, .mov (.slot 0)⟩,
  ⟨some 7, none, .mov (.slot 1)⟩,
  ⟨some 8, none, .call .inl n_slices_BinarySearchFunc_Member_int [(.slot 6), (.slot 7), (.func n_roster_place_1)]⟩,
  ⟨some 9, none, .extract 0 (.slot 8)⟩,
  ⟨some 10, none, .extract 1 (.slot 8)⟩,
  ⟨some 4, none, .mov (.slot 9)⟩,
  ⟨some 5, none, .mov (.slot 10)⟩]
def c_roster_place : AFn := ⟨(.seq (.region q64R0 false [0, 1]) (.seq (.region q64R1 false [4, 5]) .ret)), [.slot 4, .slot 5]⟩
/- oriel/roster.Find -/
def q57R0 : List AOper := [⟨some 4, none, .alloc [.int .i64 0, .int .i64 0]⟩,
  ⟨some 5, none, .mov (.const (.bool false))⟩]
def q57R1 : List AOper := [⟨some 8, none, .mov (.slot 0)⟩,
  ⟨some 9, none, .call .frz n_roster_May [(.slot 8)]⟩,
  ⟨some 10, none, .not (.slot 9)⟩,
  ⟨some 11, none, .mov (.slot 10)⟩,
  ⟨some 12, some (11, false), .mov (.slot 1)⟩,
  ⟨some 13, some (11, false), .bin .lss (.slot 12) (.const (.int .i64 1))⟩,
  ⟨some 14, none, .pick (.slot 11) (.const (.bool true)) (.slot 13)⟩,
  ⟨some 15, none, .mov (.slot 14)⟩,
  ⟨some 16, some (15, false), .mov (.slot 1)⟩,
  ⟨some 17, some (15, false), .bin .gtr (.slot 16) (.const (.int .i64 8))⟩,
  ⟨some 18, none, .pick (.slot 15) (.const (.bool true)) (.slot 17)⟩]
def q57R2 : List AOper := [⟨some 19, none, .build [.int .i64 0, .int .i64 0] []⟩,
  ⟨none, none, .store true 2 (.slot 4) (.slot 19)⟩,
  ⟨some 5, none, .mov (.const (.bool false))⟩]
def q57R3 : List AOper := [⟨some 21, none, .mov (.slot 0)⟩,
  ⟨some 22, none, .mov (.slot 1)⟩,
  ⟨some 23, none, .call .frz n_roster_place [(.slot 21), (.slot 22)]⟩,
  ⟨some 20, none, .mov (.slot 23)⟩,
  ⟨some 24, none, .extract 0 (.slot 20)⟩,
  ⟨some 25, none, .extract 1 (.slot 20)⟩,
  ⟨some 6, none, .mov (.slot 24)⟩,
  ⟨some 7, none, .mov (.slot 25)⟩]
def q57R4 : List AOper := [⟨some 26, none, .mov (.slot 7)⟩]
def q57R5 : List AOper := [⟨some 27, none, .mov (.slot 0)⟩,
  ⟨some 28, none, .mov (.slot 6)⟩,
  ⟨some 29, none, .idx 2 (.slot 27) (.slot 28)⟩,
  ⟨some 30, none, .load true 2 (.slot 29)⟩,
  ⟨none, none, .store true 2 (.slot 4) (.slot 30)⟩,
  ⟨some 5, none, .mov (.const (.bool true))⟩]
def q57R6 : List AOper := [⟨some 31, none, .build [.int .i64 0, .int .i64 0] []⟩,
  ⟨none, none, .store true 2 (.slot 4) (.slot 31)⟩,
  ⟨some 5, none, .mov (.const (.bool false))⟩]
def c_roster_Find : AFn := ⟨(.seq (.region q57R0 false [0, 1, 4]) (.seq (.seq (.region q57R1 false [0, 1, 4, 18]) (.cond (.slot 18) (.seq (.region q57R2 false [4, 5]) .ret) .skip)) (.seq (.seq (.region q57R3 false [0, 4, 6, 7]) (.seq (.region q57R4 false [0, 4, 6, 26]) (.cond (.slot 26) (.seq (.region q57R5 false [4, 5]) .ret) .skip))) (.seq (.region q57R6 false [4, 5]) .ret)))), [.cell 4 true 2, .slot 5]⟩
/- oriel/token.number -/
def q127R0 : List AOper := [⟨some 2, none, .mov (.const (.bool false))⟩]
def q127R1 : List AOper := [⟨some 3, none, .mov (.slot 0)⟩,
  ⟨some 4, none, .bin .geq (.slot 3) (.const (.int .i64 1))⟩,
  ⟨some 5, none, .mov (.slot 4)⟩,
  ⟨some 6, some (5, true), .mov (.slot 0)⟩,
  ⟨some 7, some (5, true), .bin .leq (.slot 6) (.const (.int .i64 8))⟩,
  ⟨some 8, none, .pick (.slot 5) (.slot 7) (.const (.bool false))⟩,
  ⟨some 2, none, .mov (.slot 8)⟩]
def c_token_number : AFn := ⟨(.seq (.region q127R0 false [0]) (.seq (.region q127R1 false [2]) .ret)), [.slot 2]⟩
/- oriel/token.May -/
def q123R0 : List AOper := [⟨some 1, none, .box 2 (.slot 0)⟩,
  ⟨some 2, none, .mov (.const (.bool false))⟩]
def q123R1 : List AOper := [⟨some 6, none, .faddr 0 (.slot 1)⟩,
  ⟨some 7, none, .load false 1 (.slot 6)⟩,
  ⟨some 8, none, .bin .eql (.slot 7) (.const (.int .i64 0))⟩]
def q123R2 : List AOper := [⟨some 9, none, .faddr 1 (.slot 1)⟩,
  ⟨some 10, none, .load false 1 (.slot 9)⟩,
  ⟨some 11, none, .len false (.slot 10)⟩,
  ⟨some 12, none, .bin .eql (.slot 11) (.const (.int .i64 0))⟩,
  ⟨some 2, none, .mov (.slot 12)⟩]
def q123R3 : List AOper := [⟨some 3, none, .alloc [.bool false, .bool false, .bool false, .bool false, .bool false, .bool false, .bool false, .bool false, .bool false]⟩]
def q123R4 : List AOper := [⟨some 13, none, .faddr 0 (.slot 1)⟩,
  ⟨some 14, none, .load false 1 (.slot 13)⟩,
  ⟨some 15, none, .mkslice 1 1 [.int .i64 0] [(0, (.slot 14))]⟩,
  ⟨some 16, none, .faddr 1 (.slot 1)⟩,
  ⟨some 17, none, .load false 1 (.slot 16)⟩,
  ⟨some 18, none, .append 1 8 (.slot 15) (.slot 17)⟩,
  ⟨some 19, none, .len false (.slot 18)⟩,
  ⟨some 20, none, .mov (.const (.int .i64 0))⟩]
def q123R5 : List AOper := [⟨some 21, none, .bin .lss (.slot 20) (.slot 19)⟩]
def q123R6 : List AOper := [⟨some 22, none, .idx 1 (.slot 18) (.slot 20)⟩,
  ⟨some 23, none, .load false 1 (.slot 22)⟩,
  ⟨some 5, none, .mov (.slot 23)⟩]
def q123R7 : List AOper := [⟨some 24, none, .mov (.slot 5)⟩,
  ⟨some 25, none, .call .frz n_token_number [(.slot 24)]⟩,
  ⟨some 26, none, .not (.slot 25)⟩,
  ⟨some 27, none, .mov (.slot 26)⟩,
  ⟨some 28, some (27, false), .mov (.slot 5)⟩,
  ⟨some 29, some (27, false), .idxarr 1 9 (.slot 3) (.slot 28)⟩,
  ⟨some 30, some (27, false), .load false 1 (.slot 29)⟩,
  ⟨some 31, none, .pick (.slot 27) (.const (.bool true)) (.slot 30)⟩]
def q123R8 : List AOper := [⟨some 2, none, .mov (.const (.bool false))⟩]
def q123R9 : List AOper := [⟨some 32, none, .mov (.slot 5)⟩,
  ⟨some 33, none, .idxarr 1 9 (.slot 3) (.slot 32)⟩,
  ⟨none, none, .store false 1 (.slot 33) (.const (.bool true))⟩]
def q123R10 : List AOper := [⟨some 34, none, .bin .add (.slot 20) (.const (.int .i64 1))⟩,
  ⟨some 20, none, .mov (.slot 34)⟩]
def c_token_May_L0 : ACode := (.seq (.region q123R5 false [3, 18, 19, 20, 21]) (.seq (.cond (.slot 21) .skip (.exit 0)) (.seq (.block 1 (.seq (.region q123R6 false [3, 5, 18, 19, 20]) (.seq (.seq (.region q123R7 false [3, 5, 18, 19, 20, 31]) (.cond (.slot 31) (.seq (.region q123R8 false [2]) .ret) .skip)) (.region q123R9 false [3, 18, 19, 20])))) (.region q123R10 false [3, 18, 19, 20]))))
def lp_token_May_0 : ACode := .loop [3, 18, 19, 20] c_token_May_L0
def q123R11 : List AOper := [⟨some 2, none, .mov (.const (.bool true))⟩]
def c_token_May : AFn := ⟨(.seq (.region q123R0 false [1]) (.seq (.seq (.region q123R1 false [1, 8]) (.cond (.slot 8) (.seq (.region q123R2 false [2]) .ret) .skip)) (.seq (.region q123R3 false [1, 3]) (.seq (.seq (.region q123R4 false [3, 18, 19, 20]) (.block 0 lp_token_May_0)) (.seq (.region q123R11 false [2]) .ret))))), [.slot 2]⟩
/- oriel/merge.piece -/
def q18R0 : List AOper := [⟨some 1, none, .box 3 (.slot 0)⟩,
  ⟨some 2, none, .mov (.const (.bool false))⟩]
def q18R1 : List AOper := ⟨some 3, none, .faddr 0 (.slot 1)⟩ ::
  ⟨some 4, none, .load false 1 (.slot 3)⟩ ::
  ⟨some 5, none, .bin .geq (.slot 4) (.const (.int .i64 1))⟩ ::
  ⟨some 6, none, .mov (.slot 5)⟩ ::
  ⟨some 7, some (6, true), .faddr 0 (.slot 1)⟩ ::
  ⟨some 8, some (6, true), .load false 1 (.slot 7)⟩ ::
  ⟨some 9, some (6, true), .bin .leq (.slot 8) (.const (.int .i64 8))⟩ ::
  ⟨some 10, none, .pick (.slot 6) (.slot 9) (.const (.bool false))⟩ ::
  ⟨some 11, none, .mov (.slot 10)⟩ ::
  ⟨some 12, some (11, true), .faddr 1 (.slot 1)⟩ ::
  ⟨some 13, some (11, true), .load false 1 (.slot 12)⟩ ::
  ⟨some 14, some (11, true), .bin .geq (.slot 13) (.const (.int .i64 1))⟩ ::
  ⟨some 15, none, .pick (.slot 11) (.slot 14) (.const (.bool false))⟩ ::
  ⟨some 16, none, .mov (.slot 15)⟩ ::
  ⟨some 17, some (16, true), .faddr 1 (.slot 1)⟩ ::
  ⟨some 18, some (16, true), .load false 1 (.slot 17)⟩ ::
  ⟨some 19, some (16, true), .bin .leq (.slot 18) (.const (.int .i64 1073741824))⟩ ::
  ⟨some 20, none, .pick (.slot 16) (.slot 19) (.const (.bool false))⟩ ::
  ⟨some 21, none, .mov (.slot 20)⟩ ::
  ⟨some 22, some (21, true), .faddr 2 (.slot 1)⟩ ::
  ⟨some 23, some (21, true), .load false 1 (.slot 22)⟩ ::
  ⟨some 24, some (21, true), .len false (.slot 23)⟩ ::
  ⟨some 25, some (21, true), .bin .geq (.slot 24) (.const (.int .i64 1))⟩ ::
  ⟨some 26, none, .pick (.slot 21) (.slot 25) (.const (.bool false))⟩ ::
  ⟨some 27, none, .mov (.slot 26)⟩ ::
  ⟨some 28, some (27, true), .faddr 2 (.slot 1)⟩ ::
  ⟨some 29, some (27, true), .load false 1 (.slot 28)⟩ ::
  ⟨some 30, some (27, true), .len false (.slot 29)⟩ ::
  ⟨some 31, some (27, true), .bin .leq (.slot 30) (.const (.int .i64 16))⟩ ::
  ⟨some 32, none, .pick (.slot 27) (.slot 31) (.const (.bool false))⟩ ::
  ⟨some 2, none, .mov (.slot 32)⟩ :: []
def c_merge_piece : AFn := ⟨(.seq (.region q18R0 false [1]) (.seq (.region q18R1 false [2]) .ret)), [.slot 2]⟩
/- oriel/merge.May -/
def q13R0 : List AOper := [⟨some 2, none, .mov (.const (.bool false))⟩]
def q13R1 : List AOper := [⟨some 3, none, .mov (.const (.int .i64 0))⟩]
def q13R2 : List AOper := [⟨some 6, none, .mov (.slot 0)⟩,
  ⟨some 7, none, .len false (.slot 6)⟩,
  ⟨some 8, none, .mov (.const (.int .i64 0))⟩]
def q13R3 : List AOper := [⟨some 9, none, .bin .lss (.slot 8) (.slot 7)⟩]
def q13R4 : List AOper := [⟨some 10, none, .idx 3 (.slot 6) (.slot 8)⟩,
  ⟨some 11, none, .load true 3 (.slot 10)⟩,
  ⟨some 5, none, .alloc [.int .i64 0, .int .i64 0, .data false 1 [] true]⟩,
  ⟨none, none, .store true 3 (.slot 5) (.slot 11)⟩]
def q13R5 : List AOper := [⟨some 12, none, .mov (.slot 3)⟩,
  ⟨some 13, none, .faddr 2 (.slot 5)⟩,
  ⟨some 14, none, .load false 1 (.slot 13)⟩,
  ⟨some 15, none, .len false (.slot 14)⟩,
  ⟨some 16, none, .bin .add (.slot 12) (.slot 15)⟩,
  ⟨some 3, none, .mov (.slot 16)⟩]
def q13R6 : List AOper := [⟨some 17, none, .load true 3 (.slot 5)⟩,
  ⟨some 18, none, .call .frz n_merge_piece [(.slot 17)]⟩,
  ⟨some 19, none, .not (.slot 18)⟩,
  ⟨some 20, none, .mov (.slot 19)⟩,
  ⟨some 21, some (20, false), .mov (.slot 3)⟩,
  ⟨some 22, some (20, false), .bin .gtr (.slot 21) (.const (.int .i64 64))⟩,
  ⟨some 23, none, .pick (.slot 20) (.const (.bool true)) (.slot 22)⟩]
def q13R7 : List AOper := [⟨some 2, none, .mov (.const (.bool false))⟩]
def q13R8 : List AOper := [⟨some 24, none, .bin .add (.slot 8) (.const (.int .i64 1))⟩,
  ⟨some 8, none, .mov (.slot 24)⟩]
def c_merge_May_L0 : ACode := (.seq (.region q13R3 false [3, 6, 7, 8, 9]) (.seq (.cond (.slot 9) .skip (.exit 0)) (.seq (.block 1 (.seq (.region q13R4 false [3, 5, 6, 7, 8]) (.seq (.region q13R5 false [3, 5, 6, 7, 8]) (.seq (.region q13R6 false [3, 6, 7, 8, 23]) (.cond (.slot 23) (.seq (.region q13R7 false [2]) .ret) .skip))))) (.region q13R8 false [3, 6, 7, 8]))))
def lp_merge_May_0 : ACode := .loop [3, 6, 7, 8] c_merge_May_L0
def q13R9 : List AOper := [⟨some 2, none, .mov (.const (.bool true))⟩]
def c_merge_May : AFn := ⟨(.seq (.region q13R0 false [0]) (.seq (.region q13R1 false [0, 3]) (.seq (.seq (.region q13R2 false [3, 6, 7, 8]) (.block 0 lp_merge_May_0)) (.seq (.region q13R9 false [2]) .ret)))), [.slot 2]⟩
/- oriel/size.side -/
def q91R0 : List AOper := [⟨some 2, none, .mov (.const (.bool false))⟩]
def q91R1 : List AOper := [⟨some 3, none, .mov (.slot 0)⟩,
  ⟨some 4, none, .bin .geq (.slot 3) (.const (.int .i64 1))⟩,
  ⟨some 5, none, .mov (.slot 4)⟩,
  ⟨some 6, some (5, true), .mov (.slot 0)⟩,
  ⟨some 7, some (5, true), .bin .leq (.slot 6) (.const (.int .i64 1000))⟩,
  ⟨some 8, none, .pick (.slot 5) (.slot 7) (.const (.bool false))⟩,
  ⟨some 2, none, .mov (.slot 8)⟩]
def c_size_side : AFn := ⟨(.seq (.region q91R0 false [0]) (.seq (.region q91R1 false [2]) .ret)), [.slot 2]⟩
/- oriel/size.window -/
def q92R0 : List AOper := [⟨some 1, none, .box 2 (.slot 0)⟩,
  ⟨some 2, none, .mov (.const (.bool false))⟩]
def q92R1 : List AOper := [⟨some 3, none, .load true 2 (.slot 1)⟩,
  ⟨some 4, none, .build [.int .i64 0, .int .i64 0] []⟩,
  ⟨some 5, none, .eq true [.ki, .ki] false (.slot 3) (.slot 4)⟩,
  ⟨some 6, none, .mov (.slot 5)⟩,
  ⟨some 7, some (6, false), .idxarr 1 2 (.slot 1) (.const (.int .i64 0))⟩,
  ⟨some 8, some (6, false), .load false 1 (.slot 7)⟩,
  ⟨some 9, some (6, false), .call .frz n_size_side [(.slot 8)]⟩,
  ⟨some 10, some (6, false), .mov (.slot 9)⟩,
  ⟨some 11, some (10, true), .idxarr 1 2 (.slot 1) (.const (.int .i64 1))⟩,
  ⟨some 12, some (10, true), .load false 1 (.slot 11)⟩,
  ⟨some 13, some (10, true), .call .frz n_size_side [(.slot 12)]⟩,
  ⟨some 14, some (6, false), .pick (.slot 10) (.slot 13) (.const (.bool false))⟩,
  ⟨some 15, none, .pick (.slot 6) (.const (.bool true)) (.slot 14)⟩,
  ⟨some 2, none, .mov (.slot 15)⟩]
def c_size_window : AFn := ⟨(.seq (.region q92R0 false [1]) (.seq (.region q92R1 false [2]) .ret)), [.slot 2]⟩
/- oriel/size.May -/
def q88R0 : List AOper := [⟨some 1, none, .box 18 (.slot 0)⟩,
  ⟨some 2, none, .mov (.const (.bool false))⟩]
def q88R1 : List AOper := [⟨some 4, none, .mov (.const (.int .i64 0))⟩]
def q88R2 : List AOper := [⟨some 5, none, .bin .lss (.slot 4) (.const (.int .i64 9))⟩]
def q88R3 : List AOper := [⟨some 6, none, .mov (.slot 4)⟩,
  ⟨some 3, none, .mov (.slot 6)⟩]
def q88R4 : List AOper := [⟨some 7, none, .mov (.slot 3)⟩,
  ⟨some 8, none, .idxarr 2 9 (.slot 1) (.slot 7)⟩,
  ⟨some 9, none, .load true 2 (.slot 8)⟩,
  ⟨some 10, none, .call .frz n_size_window [(.slot 9)]⟩,
  ⟨some 11, none, .not (.slot 10)⟩,
  ⟨some 12, none, .mov (.slot 11)⟩,
  ⟨some 13, some (12, false), .mov (.slot 3)⟩,
  ⟨some 14, some (12, false), .bin .eql (.slot 13) (.const (.int .i64 0))⟩,
  ⟨some 15, some (12, false), .mov (.slot 14)⟩,
  ⟨some 16, some (15, true), .mov (.slot 3)⟩,
  ⟨some 17, some (15, true), .idxarr 2 9 (.slot 1) (.slot 16)⟩,
  ⟨some 18, some (15, true), .load true 2 (.slot 17)⟩,
  ⟨some 19, some (15, true), .build [.int .i64 0, .int .i64 0] []⟩,
  ⟨some 20, some (15, true), .eq true [.ki, .ki] true (.slot 18) (.slot 19)⟩,
  ⟨some 21, some (12, false), .pick (.slot 15) (.slot 20) (.const (.bool false))⟩,
  ⟨some 22, none, .pick (.slot 12) (.const (.bool true)) (.slot 21)⟩]
def q88R5 : List AOper := [⟨some 2, none, .mov (.const (.bool false))⟩]
def q88R6 : List AOper := [⟨some 23, none, .bin .add (.slot 4) (.const (.int .i64 1))⟩,
  ⟨some 4, none, .mov (.slot 23)⟩]
def c_size_May_L0 : ACode := (.seq (.region q88R2 false [1, 4, 5]) (.seq (.cond (.slot 5) .skip (.exit 0)) (.seq (.block 1 (.seq (.region q88R3 false [1, 3, 4]) (.seq (.region q88R4 false [1, 4, 22]) (.cond (.slot 22) (.seq (.region q88R5 false [2]) .ret) .skip)))) (.region q88R6 false [1, 4]))))
def lp_size_May_0 : ACode := .loop [1, 4] c_size_May_L0
def q88R7 : List AOper := [⟨some 2, none, .mov (.const (.bool true))⟩]
def c_size_May : AFn := ⟨(.seq (.region q88R0 false [1]) (.seq (.seq (.region q88R1 false [1, 4]) (.block 0 lp_size_May_0)) (.seq (.region q88R7 false [2]) .ret))), [.slot 2]⟩
/- oriel/session.writes -/
def q86R0 : List AOper := [⟨some 2, none, .box 33 (.slot 0)⟩,
  ⟨some 4, none, .mov (.const (.bool false))⟩]
def q86R1 : List AOper := [⟨some 8, none, .faddr 0 (.slot 2)⟩,
  ⟨some 9, none, .load false 1 (.slot 8)⟩,
  ⟨some 10, none, .mov (.slot 1)⟩,
  ⟨some 11, none, .call .frz n_roster_Find [(.slot 9), (.slot 10)]⟩,
  ⟨some 7, none, .mov (.slot 11)⟩,
  ⟨some 12, none, .extract 0 (.slot 7)⟩,
  ⟨some 13, none, .extract 1 (.slot 7)⟩,
  ⟨some 5, none, .alloc [.int .i64 0, .int .i64 0]⟩,
  ⟨none, none, .store true 2 (.slot 5) (.slot 12)⟩,
  ⟨some 6, none, .mov (.slot 13)⟩]
def q86R2 : List AOper := [⟨some 14, none, .mov (.slot 6)⟩,
  ⟨some 15, none, .mov (.slot 14)⟩,
  ⟨some 16, some (15, true), .faddr 1 (.slot 5)⟩,
  ⟨some 17, some (15, true), .load false 1 (.slot 16)⟩,
  ⟨some 18, some (15, true), .bin .eql (.slot 17) (.const (.int .i64 2))⟩,
  ⟨some 19, none, .pick (.slot 15) (.slot 18) (.const (.bool false))⟩,
  ⟨some 4, none, .mov (.slot 19)⟩]
def c_session_writes : AFn := ⟨(.seq (.region q86R0 false [1, 2]) (.seq (.region q86R1 false [5, 6]) (.seq (.region q86R2 false [4]) .ret))), [.slot 4]⟩
/- slices.IndexFunc[[]int,int] -/
def q111R0 : List AOper := [⟨some 4, none, .mov (.const (.int .i64 0))⟩]
def q111R1 : List AOper := [⟨some 6, none, .mov (.slot 0)⟩,
  ⟨some 7, none, .len false (.slot 6)⟩,
  ⟨some 8, none, .mov (.const (.int .i64 0))⟩]
def q111R2 : List AOper := [⟨some 9, none, .bin .lss (.slot 8) (.slot 7)⟩]
def q111R3 : List AOper := [⟨some 10, none, .mov (.slot 8)⟩,
  ⟨some 5, none, .mov (.slot 10)⟩]
def q111R4 : List AOper := [⟨some 11, none, .mov (.slot 1)⟩,
  ⟨some 12, none, .mov (.slot 0)⟩,
  ⟨some 13, none, .mov (.slot 5)⟩,
  ⟨some 14, none, .idx 1 (.slot 12) (.slot 13)⟩,
  ⟨some 15, none, .load false 1 (.slot 14)⟩,
  ⟨some 16, none, .callv (.slot 11) [(.slot 15)]⟩]
def q111R5 : List AOper := [⟨some 17, none, .mov (.slot 5)⟩,
  ⟨some 4, none, .mov (.slot 17)⟩]
def q111R6 : List AOper := [⟨some 18, none, .bin .add (.slot 8) (.const (.int .i64 1))⟩,
  ⟨some 8, none, .mov (.slot 18)⟩]
def c_slices_IndexFunc_int_L0 : ACode := (.seq (.region q111R2 false [0, 1, 7, 8, 9]) (.seq (.cond (.slot 9) .skip (.exit 0)) (.seq (.block 1 (.seq (.region q111R3 false [0, 1, 5, 7, 8]) (.seq (.region q111R4 false [0, 1, 5, 7, 8, 16]) (.cond (.slot 16) (.seq (.region q111R5 false [4]) .ret) .skip)))) (.region q111R6 false [0, 1, 7, 8]))))
def lp_slices_IndexFunc_int_0 : ACode := .loop [0, 1, 7, 8] c_slices_IndexFunc_int_L0
def q111R7 : List AOper := [⟨some 4, none, .mov (.const (.int .i64 (-1)))⟩]
def c_slices_IndexFunc_int : AFn := ⟨(.seq (.region q111R0 false [0, 1]) (.seq (.seq (.region q111R1 false [0, 1, 7, 8]) (.block 0 lp_slices_IndexFunc_int_0)) (.seq (.region q111R7 false [4]) .ret))), [.slot 4]⟩
/- slices.ContainsFunc[[]int,int] -/
def q99R0 : List AOper := [⟨some 4, none, .mov (.const (.bool false))⟩]
def q99R1 : List AOper := [⟨some 5, none, .mov (.slot 0)⟩,
  ⟨some 6, none, .mov (.slot 1)⟩,
  ⟨some 7, none, .call .inl n_slices_IndexFunc_int [(.slot 5), (.slot 6)]⟩,
  ⟨some 8, none, .bin .geq (.slot 7) (.const (.int .i64 0))⟩,
  ⟨some 4, none, .mov (.slot 8)⟩]
def c_slices_ContainsFunc_int : AFn := ⟨(.seq (.region q99R0 false [0, 1]) (.seq (.region q99R1 false [4]) .ret)), [.slot 4]⟩
/- oriel/session.May'1 -/
def q72R0 : List AOper := [⟨some 3, none, .mov (.const (.bool false))⟩]
def q72R1 : List AOper := [⟨some 4, none, .load true 33 (.slot 1)⟩,
  ⟨some 5, none, .mov (.slot 0)⟩,
  ⟨some 6, none, .call .frz n_session_writes [(.slot 4), (.slot 5)]⟩,
  ⟨some 7, none, .not (.slot 6)⟩,
  ⟨some 3, none, .mov (.slot 7)⟩]
def c_session_May_1 : AFn := ⟨(.seq (.region q72R0 false [0, 1]) (.seq (.region q72R1 false [3]) .ret)), [.slot 3]⟩
/- slices.IndexFunc[[]oriel/api.Typed,oriel/api.Typed] -/
def q110R0 : List AOper := [⟨some 4, none, .mov (.const (.int .i64 0))⟩]
def q110R1 : List AOper := [⟨some 6, none, .mov (.slot 0)⟩,
  ⟨some 7, none, .len false (.slot 6)⟩,
  ⟨some 8, none, .mov (.const (.int .i64 0))⟩]
def q110R2 : List AOper := [⟨some 9, none, .bin .lss (.slot 8) (.slot 7)⟩]
def q110R3 : List AOper := [⟨some 10, none, .mov (.slot 8)⟩,
  ⟨some 5, none, .mov (.slot 10)⟩]
def q110R4 : List AOper := [⟨some 11, none, .mov (.slot 1)⟩,
  ⟨some 12, none, .mov (.slot 0)⟩,
  ⟨some 13, none, .mov (.slot 5)⟩,
  ⟨some 14, none, .idx 3 (.slot 12) (.slot 13)⟩,
  ⟨some 15, none, .load true 3 (.slot 14)⟩,
  ⟨some 16, none, .callv (.slot 11) [(.slot 15)]⟩]
def q110R5 : List AOper := [⟨some 17, none, .mov (.slot 5)⟩,
  ⟨some 4, none, .mov (.slot 17)⟩]
def q110R6 : List AOper := [⟨some 18, none, .bin .add (.slot 8) (.const (.int .i64 1))⟩,
  ⟨some 8, none, .mov (.slot 18)⟩]
def c_slices_IndexFunc_Typed_L0 : ACode := (.seq (.region q110R2 false [0, 1, 7, 8, 9]) (.seq (.cond (.slot 9) .skip (.exit 0)) (.seq (.block 1 (.seq (.region q110R3 false [0, 1, 5, 7, 8]) (.seq (.region q110R4 false [0, 1, 5, 7, 8, 16]) (.cond (.slot 16) (.seq (.region q110R5 false [4]) .ret) .skip)))) (.region q110R6 false [0, 1, 7, 8]))))
def lp_slices_IndexFunc_Typed_0 : ACode := .loop [0, 1, 7, 8] c_slices_IndexFunc_Typed_L0
def q110R7 : List AOper := [⟨some 4, none, .mov (.const (.int .i64 (-1)))⟩]
def c_slices_IndexFunc_Typed : AFn := ⟨(.seq (.region q110R0 false [0, 1]) (.seq (.seq (.region q110R1 false [0, 1, 7, 8]) (.block 0 lp_slices_IndexFunc_Typed_0)) (.seq (.region q110R7 false [4]) .ret))), [.slot 4]⟩
/- slices.ContainsFunc[[]oriel/api.Typed,oriel/api.Typed] -/
def q98R0 : List AOper := [⟨some 4, none, .mov (.const (.bool false))⟩]
def q98R1 : List AOper := [⟨some 5, none, .mov (.slot 0)⟩,
  ⟨some 6, none, .mov (.slot 1)⟩,
  ⟨some 7, none, .call .inl n_slices_IndexFunc_Typed [(.slot 5), (.slot 6)]⟩,
  ⟨some 8, none, .bin .geq (.slot 7) (.const (.int .i64 0))⟩,
  ⟨some 4, none, .mov (.slot 8)⟩]
def c_slices_ContainsFunc_Typed : AFn := ⟨(.seq (.region q98R0 false [0, 1]) (.seq (.region q98R1 false [4]) .ret)), [.slot 4]⟩
/- oriel/session.May'2 -/
def q73R0 : List AOper := [⟨some 2, none, .box 3 (.slot 0)⟩,
  ⟨some 3, none, .mov (.const (.bool false))⟩]
def q73R1 : List AOper := [⟨some 7, none, .faddr 0 (.slot 1)⟩,
  ⟨some 8, none, .load false 1 (.slot 7)⟩,
  ⟨some 9, none, .faddr 0 (.slot 2)⟩,
  ⟨some 10, none, .load false 1 (.slot 9)⟩,
  ⟨some 11, none, .call .frz n_roster_Find [(.slot 8), (.slot 10)]⟩,
  ⟨some 6, none, .mov (.slot 11)⟩,
  ⟨some 12, none, .extract 0 (.slot 6)⟩,
  ⟨some 13, none, .extract 1 (.slot 6)⟩,
  ⟨some 4, none, .alloc [.int .i64 0, .int .i64 0]⟩,
  ⟨none, none, .store true 2 (.slot 4) (.slot 12)⟩,
  ⟨some 5, none, .mov (.slot 13)⟩]
def q73R2 : List AOper := [⟨some 14, none, .mov (.slot 5)⟩,
  ⟨some 15, none, .not (.slot 14)⟩,
  ⟨some 16, none, .mov (.slot 15)⟩,
  ⟨some 17, some (16, false), .faddr 1 (.slot 2)⟩,
  ⟨some 18, some (16, false), .load false 1 (.slot 17)⟩,
  ⟨some 19, some (16, false), .faddr 0 (.slot 2)⟩,
  ⟨some 20, some (16, false), .load false 1 (.slot 19)⟩,
  ⟨some 21, some (16, false), .faddr 24 (.slot 1)⟩,
  ⟨some 22, some (16, false), .idxarr 1 9 (.slot 21) (.slot 20)⟩,
  ⟨some 23, some (16, false), .load false 1 (.slot 22)⟩,
  ⟨some 24, some (16, false), .bin .gtr (.slot 18) (.slot 23)⟩,
  ⟨some 25, none, .pick (.slot 16) (.const (.bool true)) (.slot 24)⟩,
  ⟨some 3, none, .mov (.slot 25)⟩]
def c_session_May_2 : AFn := ⟨(.seq (.region q73R0 false [1, 2]) (.seq (.region q73R1 false [1, 2, 5]) (.seq (.region q73R2 true [3]) .ret))), [.slot 3]⟩
/- oriel/session.May -/
def q71R0 : List AOper := [⟨some 1, none, .box 33 (.slot 0)⟩,
  ⟨some 2, none, .mov (.const (.bool false))⟩]
def q71R1 : List AOper := [⟨some 7, none, .faddr 0 (.slot 1)⟩,
  ⟨some 8, none, .load false 1 (.slot 7)⟩,
  ⟨some 9, none, .call .frz n_roster_May [(.slot 8)]⟩,
  ⟨some 10, none, .not (.slot 9)⟩,
  ⟨some 11, none, .mov (.slot 10)⟩,
  ⟨some 12, some (11, false), .faddr 1 (.slot 1)⟩,
  ⟨some 13, some (11, false), .load true 2 (.slot 12)⟩,
  ⟨some 14, some (11, false), .call .frz n_token_May [(.slot 13)]⟩,
  ⟨some 15, some (11, false), .not (.slot 14)⟩,
  ⟨some 16, none, .pick (.slot 11) (.const (.bool true)) (.slot 15)⟩,
  ⟨some 17, none, .mov (.slot 16)⟩,
  ⟨some 18, some (17, false), .faddr 3 (.slot 1)⟩,
  ⟨some 19, some (17, false), .load false 1 (.slot 18)⟩,
  ⟨some 20, some (17, false), .call .frz n_merge_May [(.slot 19)]⟩,
  ⟨some 21, some (17, false), .not (.slot 20)⟩,
  ⟨some 22, none, .pick (.slot 17) (.const (.bool true)) (.slot 21)⟩,
  ⟨some 23, none, .mov (.slot 22)⟩,
  ⟨some 24, some (23, false), .faddr 4 (.slot 1)⟩,
  ⟨some 25, some (23, false), .load true 18 (.slot 24)⟩,
  ⟨some 26, some (23, false), .call .frz n_size_May [(.slot 25)]⟩,
  ⟨some 27, some (23, false), .not (.slot 26)⟩,
  ⟨some 28, none, .pick (.slot 23) (.const (.bool true)) (.slot 27)⟩]
def q71R2 : List AOper := [⟨some 2, none, .mov (.const (.bool false))⟩]
def q71R3 : List AOper := [⟨some 29, none, .faddr 22 (.slot 1)⟩,
  ⟨some 30, none, .load false 1 (.slot 29)⟩,
  ⟨some 31, none, .bin .lss (.slot 30) (.const (.int .i64 1))⟩,
  ⟨some 32, none, .mov (.slot 31)⟩,
  ⟨some 33, some (32, false), .faddr 22 (.slot 1)⟩,
  ⟨some 34, some (32, false), .load false 1 (.slot 33)⟩,
  ⟨some 35, some (32, false), .bin .gtr (.slot 34) (.const (.int .i64 24))⟩,
  ⟨some 36, none, .pick (.slot 32) (.const (.bool true)) (.slot 35)⟩,
  ⟨some 37, none, .mov (.slot 36)⟩,
  ⟨some 38, some (37, false), .faddr 23 (.slot 1)⟩,
  ⟨some 39, some (37, false), .load false 1 (.slot 38)⟩,
  ⟨some 40, some (37, false), .bin .lss (.slot 39) (.const (.int .i64 1))⟩,
  ⟨some 41, none, .pick (.slot 37) (.const (.bool true)) (.slot 40)⟩,
  ⟨some 42, none, .mov (.slot 41)⟩,
  ⟨some 43, some (42, false), .faddr 23 (.slot 1)⟩,
  ⟨some 44, some (42, false), .load false 1 (.slot 43)⟩,
  ⟨some 45, some (42, false), .bin .gtr (.slot 44) (.const (.int .i64 40))⟩,
  ⟨some 46, none, .pick (.slot 42) (.const (.bool true)) (.slot 45)⟩]
def q71R4 : List AOper := [⟨some 2, none, .mov (.const (.bool false))⟩]
def q71R5 : List AOper := [⟨some 47, none, .faddr 1 (.slot 1)⟩,
  ⟨some 48, none, .faddr 0 (.slot 47)⟩,
  ⟨some 49, none, .load false 1 (.slot 48)⟩,
  ⟨some 50, none, .bin .neq (.slot 49) (.const (.int .i64 0))⟩,
  ⟨some 51, none, .mov (.slot 50)⟩,
  ⟨some 52, some (51, true), .load true 33 (.slot 1)⟩,
  ⟨some 53, some (51, true), .faddr 1 (.slot 1)⟩,
  ⟨some 54, some (51, true), .faddr 0 (.slot 53)⟩,
  ⟨some 55, some (51, true), .load false 1 (.slot 54)⟩,
  ⟨some 56, some (51, true), .call .frz n_session_writes [(.slot 52), (.slot 55)]⟩,
  ⟨some 57, some (51, true), .not (.slot 56)⟩,
  ⟨some 58, none, .pick (.slot 51) (.slot 57) (.const (.bool false))⟩,
  ⟨some 59, none, .mov (.slot 58)⟩,
  ⟨some 60, some (59, false), .faddr 1 (.slot 1)⟩,
  ⟨some 61, some (59, false), .faddr 1 (.slot 60)⟩,
  ⟨some 62, some (59, false), .load false 1 (.slot 61)⟩,
  ⟨some 63, some (59, false), .mkfn (.func n_session_May_1) [] [(.slot 1)]⟩,
  ⟨some 64, some (59, false), .call .inl n_slices_ContainsFunc_int [(.slot 62), (.slot 63)]⟩,
  ⟨some 65, none, .pick (.slot 59) (.const (.bool true)) (.slot 64)⟩]
def q71R6 : List AOper := [⟨some 2, none, .mov (.const (.bool false))⟩]
def q71R7 : List AOper := [⟨some 66, none, .faddr 24 (.slot 1)⟩,
  ⟨some 67, none, .load true 9 (.slot 66)⟩,
  ⟨some 68, none, .mov (.const (.int .i64 0))⟩]
def q71R8 : List AOper := [⟨some 69, none, .bin .lss (.slot 68) (.const (.int .i64 9))⟩]
def q71R9 : List AOper := [⟨some 70, none, .mov (.slot 68)⟩,
  ⟨some 71, none, .idxv false 1 9 (.slot 67) (.slot 68)⟩,
  ⟨some 3, none, .mov (.slot 70)⟩,
  ⟨some 4, none, .mov (.slot 71)⟩]
def q71R10 : List AOper := [⟨some 73, none, .faddr 0 (.slot 1)⟩,
  ⟨some 74, none, .load false 1 (.slot 73)⟩,
  ⟨some 75, none, .mov (.slot 3)⟩,
  ⟨some 76, none, .call .frz n_roster_Find [(.slot 74), (.slot 75)]⟩,
  ⟨some 72, none, .mov (.slot 76)⟩,
  ⟨some 77, none, .extract 0 (.slot 72)⟩,
  ⟨some 78, none, .extract 1 (.slot 72)⟩,
  ⟨some 5, none, .alloc [.int .i64 0, .int .i64 0]⟩,
  ⟨none, none, .store true 2 (.slot 5) (.slot 77)⟩,
  ⟨some 6, none, .mov (.slot 78)⟩]
def q71R11 : List AOper := [⟨some 79, none, .mov (.slot 4)⟩,
  ⟨some 80, none, .bin .lss (.slot 79) (.const (.int .i64 0))⟩,
  ⟨some 81, none, .mov (.slot 80)⟩,
  ⟨some 82, some (81, false), .mov (.slot 4)⟩,
  ⟨some 83, some (81, false), .bin .gtr (.slot 82) (.const (.int .i64 1073741824))⟩,
  ⟨some 84, none, .pick (.slot 81) (.const (.bool true)) (.slot 83)⟩,
  ⟨some 85, none, .mov (.slot 84)⟩,
  ⟨some 86, some (85, false), .mov (.slot 6)⟩,
  ⟨some 87, some (85, false), .not (.slot 86)⟩,
  ⟨some 88, some (85, false), .mov (.slot 87)⟩,
  ⟨some 89, some (88, true), .mov (.slot 4)⟩,
  ⟨some 90, some (88, true), .bin .neq (.slot 89) (.const (.int .i64 0))⟩,
  ⟨some 91, some (88, true), .mov (.slot 90)⟩,
  ⟨some 92, some (91, false), .mov (.slot 3)⟩,
  ⟨some 93, some (91, false), .faddr 4 (.slot 1)⟩,
  ⟨some 94, some (91, false), .idxarr 2 9 (.slot 93) (.slot 92)⟩,
  ⟨some 95, some (91, false), .load true 2 (.slot 94)⟩,
  ⟨some 96, some (91, false), .build [.int .i64 0, .int .i64 0] []⟩,
  ⟨some 97, some (91, false), .eq true [.ki, .ki] true (.slot 95) (.slot 96)⟩,
  ⟨some 98, some (88, true), .pick (.slot 91) (.const (.bool true)) (.slot 97)⟩,
  ⟨some 99, some (85, false), .pick (.slot 88) (.slot 98) (.const (.bool false))⟩,
  ⟨some 100, none, .pick (.slot 85) (.const (.bool true)) (.slot 99)⟩]
def q71R12 : List AOper := [⟨some 2, none, .mov (.const (.bool false))⟩]
def q71R13 : List AOper := [⟨some 101, none, .bin .add (.slot 68) (.const (.int .i64 1))⟩,
  ⟨some 68, none, .mov (.slot 101)⟩]
def c_session_May_L0 : ACode := (.seq (.region q71R8 false [1, 67, 68, 69]) (.seq (.cond (.slot 69) .skip (.exit 0)) (.seq (.block 1 (.seq (.region q71R9 false [1, 3, 4, 67, 68]) (.seq (.region q71R10 false [1, 3, 4, 6, 67, 68]) (.seq (.region q71R11 false [1, 67, 68, 100]) (.cond (.slot 100) (.seq (.region q71R12 false [2]) .ret) .skip))))) (.region q71R13 false [1, 67, 68]))))
def lp_session_May_0 : ACode := .loop [1, 67, 68] c_session_May_L0
def q71R14 : List AOper := [⟨some 102, none, .faddr 3 (.slot 1)⟩,
  ⟨some 103, none, .load false 1 (.slot 102)⟩,
  ⟨some 104, none, .mkfn (.func n_session_May_2) [] [(.slot 1)]⟩,
  ⟨some 105, none, .call .inl n_slices_ContainsFunc_Typed [(.slot 103), (.slot 104)]⟩,
  ⟨some 106, none, .not (.slot 105)⟩,
  ⟨some 2, none, .mov (.slot 106)⟩]
def c_session_May : AFn := ⟨(.seq (.region q71R0 false [1]) (.seq (.seq (.region q71R1 false [1, 28]) (.cond (.slot 28) (.seq (.region q71R2 false [2]) .ret) .skip)) (.seq (.seq (.region q71R3 false [1, 46]) (.cond (.slot 46) (.seq (.region q71R4 false [2]) .ret) .skip)) (.seq (.seq (.region q71R5 false [1, 65]) (.cond (.slot 65) (.seq (.region q71R6 false [2]) .ret) .skip)) (.seq (.seq (.region q71R7 false [1, 67, 68]) (.block 0 lp_session_May_0)) (.seq (.region q71R14 false [2]) .ret)))))), [.slot 2]⟩
/- slices.Insert[[]oriel/api.Member,oriel/api.Member] -/
def q113R0 : List AOper := [⟨some 6, none, .mov (.const (.data false 2 [] true))⟩]
def q113R1 : List AOper := [⟨some 10, none, .mov (.slot 0)⟩,
  ⟨some 11, none, .mov (.slot 1)⟩,
  ⟨some 12, none, .sl 2 (.slot 10) (some (.slot 11)) none none⟩]
def q113R2 : List AOper := [⟨some 13, none, .mov (.slot 2)⟩,
  ⟨some 14, none, .len false (.slot 13)⟩,
  ⟨some 7, none, .mov (.slot 14)⟩]
def q113R3 : List AOper := [⟨some 15, none, .mov (.slot 7)⟩,
  ⟨some 16, none, .bin .eql (.slot 15) (.const (.int .i64 0))⟩]
def q113R4 : List AOper := [⟨some 17, none, .mov (.slot 0)⟩,
  ⟨some 6, none, .mov (.slot 17)⟩]
def q113R5 : List AOper := [⟨some 18, none, .mov (.slot 0)⟩,
  ⟨some 19, none, .len false (.slot 18)⟩,
  ⟨some 8, none, .mov (.slot 19)⟩]
def q113R6 : List AOper := [⟨some 20, none, .mov (.slot 1)⟩,
  ⟨some 21, none, .mov (.slot 8)⟩,
  ⟨some 22, none, .bin .eql (.slot 20) (.slot 21)⟩]
def q113R7 : List AOper := [⟨some 23, none, .mov (.slot 0)⟩,
  ⟨some 24, none, .mov (.slot 2)⟩,
  ⟨some 25, none, .append 2 16 (.slot 23) (.slot 24)⟩,
  ⟨some 6, none, .mov (.slot 25)⟩]
def q113R10 : List AOper := [⟨some 41, none, .mov (.slot 9)⟩,
  ⟨some 42, none, .mov (.slot 1)⟩,
  ⟨some 43, none, .sl 2 (.slot 41) (some (.slot 42)) none none⟩,
  ⟨some 44, none, .mov (.slot 2)⟩,
  ⟨some 45, none, .copy 2 (.slot 43) (.slot 44)⟩]
def q113R11 : List AOper := [⟨some 46, none, .mov (.slot 9)⟩,
  ⟨some 47, none, .mov (.slot 1)⟩,
  ⟨some 48, none, .mov (.slot 7)⟩,
  ⟨some 49, none, .bin .add (.slot 47) (.slot 48)⟩,
  ⟨some 50, none, .sl 2 (.slot 46) (some (.slot 49)) none none⟩,
  ⟨some 51, none, .mov (.slot 0)⟩,
  ⟨some 52, none, .mov (.slot 1)⟩,
  ⟨some 53, none, .sl 2 (.slot 51) (some (.slot 52)) none none⟩,
  ⟨some 54, none, .copy 2 (.slot 50) (.slot 53)⟩]
def q113R12 : List AOper := [⟨some 55, none, .mov (.slot 9)⟩,
  ⟨some 6, none, .mov (.slot 55)⟩]
def q113R13 : List AOper := [⟨some 56, none, .mov (.slot 0)⟩,
  ⟨some 57, none, .mov (.slot 8)⟩,
  ⟨some 58, none, .mov (.slot 7)⟩,
  ⟨some 59, none, .bin .add (.slot 57) (.slot 58)⟩,
  ⟨some 60, none, .sl 2 (.slot 56) none (some (.slot 59)) none⟩,
  ⟨some 0, none, .mov (.slot 60)⟩]
def q113R14 : List AOper := [⟨some 61, none, .mov (.slot 2)⟩,
  ⟨some 62, none, .mov (.slot 0)⟩,
  ⟨some 63, none, .mov (.slot 1)⟩,
  ⟨some 64, none, .mov (.slot 7)⟩,
  ⟨some 65, none, .bin .add (.slot 63) (.slot 64)⟩,
  ⟨some 66, none, .sl 2 (.slot 62) (some (.slot 65)) none none⟩,
  ⟨some 67, none, .call .frz n_slices_overlaps_Member [(.slot 61), (.slot 66)]⟩,
  ⟨some 68, none, .not (.slot 67)⟩]
def q113R15 : List AOper := [⟨some 69, none, .mov (.slot 0)⟩,
  ⟨some 70, none, .mov (.slot 1)⟩,
  ⟨some 71, none, .mov (.slot 7)⟩,
  ⟨some 72, none, .bin .add (.slot 70) (.slot 71)⟩,
  ⟨some 73, none, .sl 2 (.slot 69) (some (.slot 72)) none none⟩,
  ⟨some 74, none, .mov (.slot 0)⟩,
  ⟨some 75, none, .mov (.slot 1)⟩,
  ⟨some 76, none, .sl 2 (.slot 74) (some (.slot 75)) none none⟩,
  ⟨some 77, none, .copy 2 (.slot 73) (.slot 76)⟩]
def q113R16 : List AOper := [⟨some 78, none, .mov (.slot 0)⟩,
  ⟨some 79, none, .mov (.slot 1)⟩,
  ⟨some 80, none, .sl 2 (.slot 78) (some (.slot 79)) none none⟩,
  ⟨some 81, none, .mov (.slot 2)⟩,
  ⟨some 82, none, .copy 2 (.slot 80) (.slot 81)⟩]
def q113R17 : List AOper := [⟨some 83, none, .mov (.slot 0)⟩,
  ⟨some 6, none, .mov (.slot 83)⟩]
def q113R18 : List AOper := [⟨some 84, none, .mov (.slot 0)⟩,
  ⟨some 85, none, .mov (.slot 8)⟩,
  ⟨some 86, none, .sl 2 (.slot 84) (some (.slot 85)) none none⟩,
  ⟨some 87, none, .mov (.slot 2)⟩,
  ⟨some 88, none, .copy 2 (.slot 86) (.slot 87)⟩]
def q113R19 : List AOper := [⟨some 89, none, .mov (.slot 0)⟩,
  ⟨some 90, none, .mov (.slot 1)⟩,
  ⟨some 91, none, .sl 2 (.slot 89) (some (.slot 90)) none none⟩,
  ⟨some 92, none, .mov (.slot 7)⟩,
  ⟨some 93, none, .call .frz n_slices_rotateRight_Member [(.slot 91), (.slot 92)]⟩]
def q113R20 : List AOper := [⟨some 94, none, .mov (.slot 0)⟩,
  ⟨some 6, none, .mov (.slot 94)⟩]
def c_slices_Insert_Member : AFn := ⟨(.seq (.region q113R0 false [0, 1, 2]) (.seq (.region q113R1 false [0, 1, 2]) (.seq (.region q113R2 false [0, 1, 2, 7]) (.seq (.seq (.region q113R3 false [0, 1, 2, 7, 16]) (.cond (.slot 16) (.seq (.region q113R4 false [6]) .ret) .skip)) (.seq (.region q113R5 false [0, 1, 2, 7, 8]) (.seq (.seq (.region q113R6 false [0, 1, 2, 7, 8, 22]) (.cond (.slot 22) (.seq (.region q113R7 false [6]) .ret) .skip)) (.seq (.seq .dead (.cond (.slot 31) (.seq .dead (.seq (.region q113R10 false [0, 1, 7, 9]) (.seq (.region q113R11 true [9]) (.seq (.region q113R12 false [6]) .ret)))) .skip)) (.seq (.region q113R13 false [0, 1, 2, 7, 8]) (.seq (.seq (.region q113R14 false [0, 1, 2, 7, 8, 68]) (.cond (.slot 68) (.seq (.region q113R15 true [0, 1, 2]) (.seq (.region q113R16 false [0]) (.seq (.region q113R17 false [6]) .ret))) .skip)) (.seq (.region q113R18 false [0, 1, 7]) (.seq (.region q113R19 false [0]) (.seq (.region q113R20 false [6]) .ret)))))))))))), [.slot 6]⟩
/- slices.Clone[[]oriel/api.Member,oriel/api.Member] -/
def q94R0 : List AOper := [⟨some 2, none, .mov (.const (.data false 2 [] true))⟩]
def q94R1 : List AOper := [⟨some 3, none, .mov (.slot 0)⟩,
  ⟨some 4, none, .isnil .ks false (.slot 3)⟩]
def q94R2 : List AOper := [⟨some 2, none, .mov (.const (.data false 2 [] true))⟩]
def q94R3 : List AOper := [⟨some 5, none, .mkslice 2 0 [.int .i64 0, .int .i64 0] []⟩,
  ⟨some 6, none, .mov (.slot 0)⟩,
  ⟨some 7, none, .append 2 16 (.slot 5) (.slot 6)⟩,
  ⟨some 2, none, .mov (.slot 7)⟩]
def c_slices_Clone_Member : AFn := ⟨(.seq (.region q94R0 false [0]) (.seq (.seq (.region q94R1 false [0, 4]) (.cond (.slot 4) (.seq (.region q94R2 false [2]) .ret) .skip)) (.seq (.region q94R3 false [2]) .ret))), [.slot 2]⟩
/- oriel/roster.Join -/
def q58R0 : List AOper := [⟨some 6, none, .mov (.const (.data false 2 [] true))⟩,
  ⟨some 7, none, .mov (.const (.int .i64 0))⟩]
def q58R1 : List AOper := [⟨some 10, none, .mov (.slot 0)⟩,
  ⟨some 11, none, .call .frz n_roster_May [(.slot 10)]⟩,
  ⟨some 12, none, .not (.slot 11)⟩,
  ⟨some 13, none, .mov (.slot 12)⟩,
  ⟨some 14, some (13, false), .mov (.slot 1)⟩,
  ⟨some 15, some (13, false), .bin .lss (.slot 14) (.const (.int .i64 1))⟩,
  ⟨some 16, none, .pick (.slot 13) (.const (.bool true)) (.slot 15)⟩,
  ⟨some 17, none, .mov (.slot 16)⟩,
  ⟨some 18, some (17, false), .mov (.slot 1)⟩,
  ⟨some 19, some (17, false), .bin .gtr (.slot 18) (.const (.int .i64 8))⟩,
  ⟨some 20, none, .pick (.slot 17) (.const (.bool true)) (.slot 19)⟩,
  ⟨some 21, none, .mov (.slot 20)⟩,
  ⟨some 22, some (21, false), .mov (.slot 2)⟩,
  ⟨some 23, some (21, false), .call .frz n_roster_role [(.slot 22)]⟩,
  ⟨some 24, some (21, false), .not (.slot 23)⟩,
  ⟨some 25, none, .pick (.slot 21) (.const (.bool true)) (.slot 24)⟩]
def q58R2 : List AOper := [⟨some 6, none, .mov (.const (.data false 2 [] true))⟩,
  ⟨some 7, none, .mov (.const (.int .i64 2))⟩]
def q58R3 : List AOper := [⟨some 27, none, .mov (.slot 0)⟩,
  ⟨some 28, none, .mov (.slot 1)⟩,
  ⟨some 29, none, .call .frz n_roster_place [(.slot 27), (.slot 28)]⟩,
  ⟨some 26, none, .mov (.slot 29)⟩,
  ⟨some 30, none, .extract 0 (.slot 26)⟩,
  ⟨some 31, none, .extract 1 (.slot 26)⟩,
  ⟨some 8, none, .mov (.slot 30)⟩,
  ⟨some 9, none, .mov (.slot 31)⟩]
def q58R4 : List AOper := [⟨some 32, none, .mov (.slot 9)⟩]
def q58R5 : List AOper := [⟨some 6, none, .mov (.const (.data false 2 [] true))⟩,
  ⟨some 7, none, .mov (.const (.int .i64 260))⟩]
def q58R6 : List AOper := [⟨some 33, none, .mov (.slot 0)⟩,
  ⟨some 34, none, .call .adp n_slices_Clone_Member [(.slot 33)]⟩,
  ⟨some 35, none, .mov (.slot 8)⟩,
  ⟨some 36, none, .mov (.slot 1)⟩,
  ⟨some 37, none, .mov (.slot 2)⟩,
  ⟨some 38, none, .build [.int .i64 0, .int .i64 0] [(0, 1, (.slot 36)), (1, 1, (.slot 37))]⟩,
  ⟨some 39, none, .mkslice 2 1 [.int .i64 0, .int .i64 0] [(0, (.slot 38))]⟩,
  ⟨some 40, none, .call .inl n_slices_Insert_Member [(.slot 34), (.slot 35), (.slot 39)]⟩,
  ⟨some 6, none, .mov (.slot 40)⟩,
  ⟨some 7, none, .mov (.const (.int .i64 0))⟩]
def c_roster_Join : AFn := ⟨(.seq (.region q58R0 false [0, 1, 2]) (.seq (.seq (.region q58R1 false [0, 1, 2, 25]) (.cond (.slot 25) (.seq (.region q58R2 false [6, 7]) .ret) .skip)) (.seq (.region q58R3 false [0, 1, 2, 8, 9]) (.seq (.seq (.region q58R4 false [0, 1, 2, 8, 32]) (.cond (.slot 32) (.seq (.region q58R5 false [6, 7]) .ret) .skip)) (.seq (.region q58R6 false [6, 7]) .ret))))), [.slot 6, .slot 7]⟩
/- bytes.Clone -/
def q0R0 : List AOper := [⟨some 2, none, .mov (.const (.data false 1 [] true))⟩]
def q0R1 : List AOper := [⟨some 3, none, .mov (.slot 0)⟩,
  ⟨some 4, none, .isnil .ks false (.slot 3)⟩]
def q0R2 : List AOper := [⟨some 2, none, .mov (.const (.data false 1 [] true))⟩]
def q0R3 : List AOper := [⟨some 5, none, .mkslice 1 0 [.int .u8 0] []⟩,
  ⟨some 6, none, .mov (.slot 0)⟩,
  ⟨some 7, none, .append 1 1 (.slot 5) (.slot 6)⟩,
  ⟨some 2, none, .mov (.slot 7)⟩]
def c_bytes_Clone : AFn := ⟨(.seq (.region q0R0 false [0]) (.seq (.seq (.region q0R1 false [0, 4]) (.cond (.slot 4) (.seq (.region q0R2 false [2]) .ret) .skip)) (.seq (.region q0R3 false [2]) .ret))), [.slot 2]⟩
/- oriel/merge.copied -/
def q17R0 : List AOper := [⟨some 2, none, .mov (.const (.data false 3 [] true))⟩]
def q17R1 : List AOper := [⟨some 3, none, .mknil 3⟩]
def q17R2 : List AOper := [⟨some 6, none, .mov (.slot 0)⟩,
  ⟨some 7, none, .len false (.slot 6)⟩,
  ⟨some 8, none, .mov (.const (.int .i64 0))⟩]
def q17R3 : List AOper := [⟨some 9, none, .bin .lss (.slot 8) (.slot 7)⟩]
def q17R4 : List AOper := [⟨some 10, none, .idx 3 (.slot 6) (.slot 8)⟩,
  ⟨some 11, none, .load true 3 (.slot 10)⟩,
  ⟨some 5, none, .alloc [.int .i64 0, .int .i64 0, .data false 1 [] true]⟩,
  ⟨none, none, .store true 3 (.slot 5) (.slot 11)⟩]
def q17R5 : List AOper := [⟨some 12, none, .faddr 2 (.slot 5)⟩,
  ⟨some 13, none, .load false 1 (.slot 12)⟩,
  ⟨some 14, none, .call .frz n_bytes_Clone [(.slot 13)]⟩,
  ⟨some 15, none, .faddr 2 (.slot 5)⟩,
  ⟨none, none, .store false 1 (.slot 15) (.slot 14)⟩]
def q17R6 : List AOper := [⟨some 16, none, .mov (.slot 3)⟩,
  ⟨some 17, none, .load true 3 (.slot 5)⟩,
  ⟨some 18, none, .mkslice 3 1 [.int .i64 0, .int .i64 0, .data false 1 [] true] [(0, (.slot 17))]⟩,
  ⟨some 19, none, .append 3 40 (.slot 16) (.slot 18)⟩,
  ⟨some 3, none, .mov (.slot 19)⟩]
def q17R7 : List AOper := [⟨some 20, none, .bin .add (.slot 8) (.const (.int .i64 1))⟩,
  ⟨some 8, none, .mov (.slot 20)⟩]
def c_merge_copied_L0 : ACode := (.seq (.region q17R3 false [3, 6, 7, 8, 9]) (.seq (.cond (.slot 9) .skip (.exit 0)) (.seq (.block 1 (.seq (.region q17R4 false [3, 5, 6, 7, 8]) (.seq (.region q17R5 false [3, 5, 6, 7, 8]) (.region q17R6 false [3, 6, 7, 8])))) (.region q17R7 false [3, 6, 7, 8]))))
def lp_merge_copied_0 : ACode := .loop [3, 6, 7, 8] c_merge_copied_L0
def q17R8 : List AOper := [⟨some 21, none, .mov (.slot 3)⟩,
  ⟨some 2, none, .mov (.slot 21)⟩]
def c_merge_copied : AFn := ⟨(.seq (.region q17R0 false [0]) (.seq (.region q17R1 false [0, 3]) (.seq (.seq (.region q17R2 false [3, 6, 7, 8]) (.block 0 lp_merge_copied_0)) (.seq (.region q17R8 false [2]) .ret)))), [.slot 2]⟩
/- oriel/merge.Pop -/
def q14R0 : List AOper := [⟨some 4, none, .mov (.const (.data false 3 [] true))⟩,
  ⟨some 5, none, .mov (.const (.data false 3 [] true))⟩]
def q14R1 : List AOper := [⟨some 7, none, .mov (.slot 0)⟩,
  ⟨some 8, none, .call .frz n_merge_May [(.slot 7)]⟩,
  ⟨some 9, none, .not (.slot 8)⟩]
def q14R2 : List AOper := [⟨some 4, none, .mov (.const (.data false 3 [] true))⟩,
  ⟨some 5, none, .mov (.const (.data false 3 [] true))⟩]
def q14R3 : List AOper := [⟨some 6, none, .mov (.const (.int .i64 0))⟩]
def q14R4 : List AOper := [⟨some 10, none, .mov (.slot 6)⟩,
  ⟨some 11, none, .mov (.slot 0)⟩,
  ⟨some 12, none, .len false (.slot 11)⟩,
  ⟨some 13, none, .bin .lss (.slot 10) (.slot 12)⟩,
  ⟨some 14, none, .mov (.slot 13)⟩,
  ⟨some 15, some (14, true), .mov (.slot 0)⟩,
  ⟨some 16, some (14, true), .mov (.slot 6)⟩,
  ⟨some 17, some (14, true), .idx 3 (.slot 15) (.slot 16)⟩,
  ⟨some 18, some (14, true), .faddr 2 (.slot 17)⟩,
  ⟨some 19, some (14, true), .load false 1 (.slot 18)⟩,
  ⟨some 20, some (14, true), .len false (.slot 19)⟩,
  ⟨some 21, some (14, true), .mov (.slot 1)⟩,
  ⟨some 22, some (14, true), .bin .leq (.slot 20) (.slot 21)⟩,
  ⟨some 23, none, .pick (.slot 14) (.slot 22) (.const (.bool false))⟩]
def q14R5 : List AOper := [⟨some 24, none, .mov (.slot 1)⟩,
  ⟨some 25, none, .mov (.slot 0)⟩,
  ⟨some 26, none, .mov (.slot 6)⟩,
  ⟨some 27, none, .idx 3 (.slot 25) (.slot 26)⟩,
  ⟨some 28, none, .faddr 2 (.slot 27)⟩,
  ⟨some 29, none, .load false 1 (.slot 28)⟩,
  ⟨some 30, none, .len false (.slot 29)⟩,
  ⟨some 31, none, .bin .sub (.slot 24) (.slot 30)⟩,
  ⟨some 1, none, .mov (.slot 31)⟩]
def q14R6 : List AOper := [⟨some 32, none, .mov (.slot 6)⟩,
  ⟨some 33, none, .bin .add (.slot 32) (.const (.int .i64 1))⟩,
  ⟨some 6, none, .mov (.slot 33)⟩]
def c_merge_Pop_L0 : ACode := (.seq (.seq (.region q14R4 false [0, 1, 6, 23]) (.cond (.slot 23) .skip (.exit 0))) (.block 1 (.seq (.region q14R5 false [0, 1, 6]) (.region q14R6 false [0, 1, 6]))))
def lp_merge_Pop_0 : ACode := .loop [0, 1, 6] c_merge_Pop_L0
def q14R7 : List AOper := [⟨some 34, none, .mov (.slot 0)⟩,
  ⟨some 35, none, .mov (.slot 6)⟩,
  ⟨some 36, none, .mov (.slot 0)⟩,
  ⟨some 37, none, .len false (.slot 36)⟩,
  ⟨some 38, none, .mov (.slot 0)⟩,
  ⟨some 39, none, .len false (.slot 38)⟩,
  ⟨some 40, none, .sl 3 (.slot 34) (some (.slot 35)) (some (.slot 37)) (some (.slot 39))⟩,
  ⟨some 41, none, .call .frz n_merge_copied [(.slot 40)]⟩,
  ⟨some 42, none, .mov (.slot 0)⟩,
  ⟨some 43, none, .mov (.slot 6)⟩,
  ⟨some 44, none, .mov (.slot 6)⟩,
  ⟨some 45, none, .sl 3 (.slot 42) none (some (.slot 43)) (some (.slot 44))⟩,
  ⟨some 46, none, .call .frz n_merge_copied [(.slot 45)]⟩,
  ⟨some 4, none, .mov (.slot 41)⟩,
  ⟨some 5, none, .mov (.slot 46)⟩]
def c_merge_Pop : AFn := ⟨(.seq (.region q14R0 false [0, 1]) (.seq (.seq (.region q14R1 false [0, 1, 9]) (.cond (.slot 9) (.seq (.region q14R2 false [4, 5]) .ret) .skip)) (.seq (.region q14R3 false [0, 1, 6]) (.seq (.block 0 lp_merge_Pop_0) (.seq (.region q14R7 true [4, 5]) .ret))))), [.slot 4, .slot 5]⟩
/- slices.Clone[[]int,int] -/
def q95R0 : List AOper := [⟨some 2, none, .mov (.const (.data false 1 [] true))⟩]
def q95R1 : List AOper := [⟨some 3, none, .mov (.slot 0)⟩,
  ⟨some 4, none, .isnil .ks false (.slot 3)⟩]
def q95R2 : List AOper := [⟨some 2, none, .mov (.const (.data false 1 [] true))⟩]
def q95R3 : List AOper := [⟨some 5, none, .mkslice 1 0 [.int .i64 0] []⟩,
  ⟨some 6, none, .mov (.slot 0)⟩,
  ⟨some 7, none, .append 1 8 (.slot 5) (.slot 6)⟩,
  ⟨some 2, none, .mov (.slot 7)⟩]
def c_slices_Clone_int : AFn := ⟨(.seq (.region q95R0 false [0]) (.seq (.seq (.region q95R1 false [0, 4]) (.cond (.slot 4) (.seq (.region q95R2 false [2]) .ret) .skip)) (.seq (.region q95R3 false [2]) .ret))), [.slot 2]⟩
/- oriel/session.copied -/
def q78R0 : List AOper := [⟨some 1, none, .box 33 (.slot 0)⟩,
  ⟨some 2, none, .alloc (.data false 2 [] true :: .int .i64 0 :: .data false 1 [] true :: .data false 3 [] true :: .int .i64 0 :: .int .i64 0 :: .int .i64 0 :: .int .i64 0 :: .int .i64 0 :: .int .i64 0 :: .int .i64 0 :: .int .i64 0 :: .int .i64 0 :: .int .i64 0 :: .int .i64 0 :: .int .i64 0 :: .int .i64 0 :: .int .i64 0 :: .int .i64 0 :: .int .i64 0 :: .int .i64 0 :: .int .i64 0 :: .int .i64 0 :: .int .i64 0 :: .int .i64 0 :: .int .i64 0 :: .int .i64 0 :: .int .i64 0 :: .int .i64 0 :: .int .i64 0 :: .int .i64 0 :: .int .i64 0 :: .int .i64 0 :: [])⟩]
def q78R1 : List AOper := [⟨some 3, none, .faddr 0 (.slot 1)⟩,
  ⟨some 4, none, .load false 1 (.slot 3)⟩,
  ⟨some 5, none, .call .adp n_slices_Clone_Member [(.slot 4)]⟩,
  ⟨some 6, none, .faddr 1 (.slot 1)⟩,
  ⟨some 7, none, .faddr 1 (.slot 6)⟩,
  ⟨some 8, none, .load false 1 (.slot 7)⟩,
  ⟨some 9, none, .call .adp n_slices_Clone_int [(.slot 8)]⟩,
  ⟨some 10, none, .faddr 0 (.slot 1)⟩,
  ⟨none, none, .store false 1 (.slot 10) (.slot 5)⟩,
  ⟨some 11, none, .faddr 1 (.slot 1)⟩,
  ⟨some 12, none, .faddr 1 (.slot 11)⟩,
  ⟨none, none, .store false 1 (.slot 12) (.slot 9)⟩]
def q78R2 : List AOper := [⟨some 14, none, .faddr 3 (.slot 1)⟩,
  ⟨some 15, none, .load false 1 (.slot 14)⟩,
  ⟨some 16, none, .call .frz n_merge_Pop [(.slot 15), (.const (.int .i64 (-1)))]⟩,
  ⟨some 13, none, .mov (.slot 16)⟩,
  ⟨some 17, none, .extract 0 (.slot 13)⟩,
  ⟨some 18, none, .extract 1 (.slot 13)⟩,
  ⟨some 19, none, .faddr 3 (.slot 1)⟩,
  ⟨none, none, .store false 1 (.slot 19) (.slot 17)⟩]
def q78R3 : List AOper := [⟨some 20, none, .load true 33 (.slot 1)⟩,
  ⟨none, none, .store true 33 (.slot 2) (.slot 20)⟩]
def c_session_copied : AFn := ⟨(.seq (.region q78R0 false [1, 2]) (.seq (.region q78R1 true [1, 2]) (.seq (.region q78R2 false [1, 2]) (.seq (.region q78R3 false [2]) .ret)))), [.cell 2 true 33]⟩
/- slices.DeleteFunc[[]oriel/api.Typed,oriel/api.Typed] -/
def q102R0 : List AOper := [⟨some 4, none, .mov (.const (.data false 3 [] true))⟩]
def q102R1 : List AOper := [⟨some 8, none, .mov (.slot 0)⟩,
  ⟨some 9, none, .mov (.slot 1)⟩,
  ⟨some 10, none, .call .inl n_slices_IndexFunc_Typed [(.slot 8), (.slot 9)]⟩,
  ⟨some 5, none, .mov (.slot 10)⟩]
def q102R2 : List AOper := [⟨some 11, none, .mov (.slot 5)⟩,
  ⟨some 12, none, .bin .eql (.slot 11) (.const (.int .i64 (-1)))⟩]
def q102R3 : List AOper := [⟨some 13, none, .mov (.slot 0)⟩,
  ⟨some 4, none, .mov (.slot 13)⟩]
def q102R4 : List AOper := [⟨some 14, none, .mov (.slot 5)⟩,
  ⟨some 15, none, .bin .add (.slot 14) (.const (.int .i64 1))⟩,
  ⟨some 6, none, .mov (.slot 15)⟩]
def q102R5 : List AOper := [⟨some 16, none, .mov (.slot 6)⟩,
  ⟨some 17, none, .mov (.slot 0)⟩,
  ⟨some 18, none, .len false (.slot 17)⟩,
  ⟨some 19, none, .bin .lss (.slot 16) (.slot 18)⟩]
def q102R7 : List AOper := [⟨some 22, none, .mov (.slot 0)⟩,
  ⟨some 23, none, .mov (.slot 6)⟩,
  ⟨some 24, none, .idx 3 (.slot 22) (.slot 23)⟩,
  ⟨some 25, none, .load true 3 (.slot 24)⟩,
  ⟨some 7, none, .alloc [.int .i64 0, .int .i64 0, .data false 1 [] true]⟩,
  ⟨none, none, .store true 3 (.slot 7) (.slot 25)⟩]
def q102R8 : List AOper := [⟨some 26, none, .mov (.slot 1)⟩,
  ⟨some 27, none, .load true 3 (.slot 7)⟩,
  ⟨some 28, none, .callv (.slot 26) [(.slot 27)]⟩,
  ⟨some 29, none, .not (.slot 28)⟩]
def q102R9 : List AOper := [⟨some 30, none, .mov (.slot 0)⟩,
  ⟨some 31, none, .mov (.slot 5)⟩,
  ⟨some 32, none, .load true 3 (.slot 7)⟩,
  ⟨some 33, none, .idx 3 (.slot 30) (.slot 31)⟩,
  ⟨none, none, .store true 3 (.slot 33) (.slot 32)⟩]
def q102R10 : List AOper := [⟨some 34, none, .mov (.slot 5)⟩,
  ⟨some 35, none, .bin .add (.slot 34) (.const (.int .i64 1))⟩,
  ⟨some 5, none, .mov (.slot 35)⟩]
def q102R6 : List AOper := [⟨some 20, none, .mov (.slot 6)⟩,
  ⟨some 21, none, .bin .add (.slot 20) (.const (.int .i64 1))⟩,
  ⟨some 6, none, .mov (.slot 21)⟩]
def c_slices_DeleteFunc_Typed_L0 : ACode := (.seq (.seq (.region q102R5 false [0, 1, 5, 6, 19]) (.cond (.slot 19) .skip (.exit 0))) (.seq (.block 1 (.seq (.region q102R7 false [0, 1, 5, 6, 7]) (.seq (.region q102R8 false [0, 1, 5, 6, 7, 29]) (.cond (.slot 29) (.seq (.region q102R9 false [0, 1, 5, 6]) (.region q102R10 false [0, 1, 5, 6])) .skip)))) (.region q102R6 false [0, 1, 5, 6])))
def lp_slices_DeleteFunc_Typed_0 : ACode := .loop [0, 1, 5, 6] c_slices_DeleteFunc_Typed_L0
def q102R11 : List AOper := [⟨some 36, none, .mov (.slot 0)⟩,
  ⟨some 37, none, .mov (.slot 5)⟩,
  ⟨some 38, none, .sl 3 (.slot 36) (some (.slot 37)) none none⟩,
  ⟨none, none, .clear [.int .i64 0, .int .i64 0, .data false 1 [] true] (.slot 38)⟩]
def q102R12 : List AOper := [⟨some 39, none, .mov (.slot 0)⟩,
  ⟨some 40, none, .mov (.slot 5)⟩,
  ⟨some 41, none, .sl 3 (.slot 39) none (some (.slot 40)) none⟩,
  ⟨some 4, none, .mov (.slot 41)⟩]
def c_slices_DeleteFunc_Typed : AFn := ⟨(.seq (.region q102R0 false [0, 1]) (.seq (.region q102R1 false [0, 1, 5]) (.seq (.seq (.region q102R2 false [0, 1, 5, 12]) (.cond (.slot 12) (.seq (.region q102R3 false [4]) .ret) .skip)) (.seq (.seq (.region q102R4 false [0, 1, 5, 6]) (.block 0 lp_slices_DeleteFunc_Typed_0)) (.seq (.region q102R11 false [0, 5]) (.seq (.region q102R12 false [4]) .ret)))))), [.slot 4]⟩
/- oriel/merge.Drop'1 -/
def q12R0 : List AOper := [⟨some 2, none, .box 3 (.slot 0)⟩,
  ⟨some 3, none, .mov (.const (.bool false))⟩]
def q12R1 : List AOper := [⟨some 4, none, .faddr 0 (.slot 2)⟩,
  ⟨some 5, none, .load false 1 (.slot 4)⟩,
  ⟨some 6, none, .load false 1 (.slot 1)⟩,
  ⟨some 7, none, .bin .eql (.slot 5) (.slot 6)⟩,
  ⟨some 3, none, .mov (.slot 7)⟩]
def c_merge_Drop_1 : AFn := ⟨(.seq (.region q12R0 false [1, 2]) (.seq (.region q12R1 false [3]) .ret)), [.slot 3]⟩
/- oriel/merge.Drop -/
def q11R0 : List AOper := [⟨some 3, none, .box 1 (.slot 1)⟩,
  ⟨some 4, none, .mov (.const (.data false 3 [] true))⟩]
def q11R1 : List AOper := [⟨some 5, none, .mov (.slot 0)⟩,
  ⟨some 6, none, .call .frz n_merge_May [(.slot 5)]⟩,
  ⟨some 7, none, .not (.slot 6)⟩]
def q11R2 : List AOper := [⟨some 4, none, .mov (.const (.data false 3 [] true))⟩]
def q11R3 : List AOper := [⟨some 8, none, .mov (.slot 0)⟩,
  ⟨some 9, none, .call .adp n_merge_copied [(.slot 8)]⟩,
  ⟨some 10, none, .mkfn (.func n_merge_Drop_1) [] [(.slot 3)]⟩,
  ⟨some 11, none, .call .inl n_slices_DeleteFunc_Typed [(.slot 9), (.slot 10)]⟩,
  ⟨some 4, none, .mov (.slot 11)⟩]
def c_merge_Drop : AFn := ⟨(.seq (.region q11R0 false [0, 3]) (.seq (.seq (.region q11R1 false [0, 3, 7]) (.cond (.slot 7) (.seq (.region q11R2 false [4]) .ret) .skip)) (.seq (.region q11R3 false [4]) .ret))), [.slot 4]⟩
/- (*oriel/token.arbiter).on -/
def q125R0 : List AOper := [⟨some 2, none, .mov (.slot 0)⟩,
  ⟨some 3, none, .nilchk (.slot 2)⟩,
  ⟨some 4, none, .faddr 0 (.slot 3)⟩,
  ⟨some 5, none, .faddr 0 (.slot 4)⟩,
  ⟨none, none, .store false 1 (.slot 5) (.const (.int .i64 0))⟩]
def q125R1 : List AOper := [⟨some 6, none, .mov (.slot 0)⟩,
  ⟨some 7, none, .nilchk (.slot 6)⟩,
  ⟨some 8, none, .faddr 0 (.slot 7)⟩,
  ⟨some 9, none, .faddr 1 (.slot 8)⟩,
  ⟨some 10, none, .load false 1 (.slot 9)⟩,
  ⟨some 11, none, .len false (.slot 10)⟩,
  ⟨some 12, none, .bin .gtr (.slot 11) (.const (.int .i64 0))⟩]
def q125R2 : List AOper := [⟨some 13, none, .mov (.slot 0)⟩,
  ⟨some 14, none, .mov (.slot 0)⟩,
  ⟨some 15, none, .mov (.slot 0)⟩,
  ⟨some 16, none, .nilchk (.slot 15)⟩,
  ⟨some 17, none, .faddr 0 (.slot 16)⟩,
  ⟨some 18, none, .faddr 1 (.slot 17)⟩,
  ⟨some 19, none, .load false 1 (.slot 18)⟩,
  ⟨some 20, none, .idx 1 (.slot 19) (.const (.int .i64 0))⟩,
  ⟨some 21, none, .load false 1 (.slot 20)⟩,
  ⟨some 22, none, .mov (.slot 0)⟩,
  ⟨some 23, none, .nilchk (.slot 22)⟩,
  ⟨some 24, none, .faddr 0 (.slot 23)⟩,
  ⟨some 25, none, .faddr 1 (.slot 24)⟩,
  ⟨some 26, none, .load false 1 (.slot 25)⟩,
  ⟨some 27, none, .sl 1 (.slot 26) (some (.const (.int .i64 1))) none none⟩,
  ⟨some 28, none, .nilchk (.slot 13)⟩,
  ⟨some 29, none, .faddr 0 (.slot 28)⟩,
  ⟨some 30, none, .faddr 0 (.slot 29)⟩,
  ⟨none, none, .store false 1 (.slot 30) (.slot 21)⟩,
  ⟨some 31, none, .nilchk (.slot 14)⟩,
  ⟨some 32, none, .faddr 0 (.slot 31)⟩,
  ⟨some 33, none, .faddr 1 (.slot 32)⟩,
  ⟨none, none, .store false 1 (.slot 33) (.slot 27)⟩]
def c_token_arbiter_on : AFn := ⟨(.seq (.region q125R0 false [0]) (.seq (.region q125R1 false [0, 12]) (.cond (.slot 12) (.region q125R2 true []) .skip))), []⟩
/- oriel/token.change -/
def q126R0 : List AOper := [⟨some 2, none, .box 2 (.slot 0)⟩,
  ⟨some 4, none, .alloc [.int .i64 0, .data false 1 [] true]⟩]
def q126R1 : List AOper := [⟨some 6, none, .faddr 0 (.slot 2)⟩,
  ⟨some 7, none, .load false 1 (.slot 6)⟩,
  ⟨some 8, none, .faddr 1 (.slot 2)⟩,
  ⟨some 9, none, .load false 1 (.slot 8)⟩,
  ⟨some 10, none, .call .adp n_slices_Clone_int [(.slot 9)]⟩,
  ⟨some 11, none, .build [.int .i64 0, .data false 1 [] true] [(0, 1, (.slot 7)), (1, 1, (.slot 10))]⟩,
  ⟨some 12, none, .build [.int .i64 0, .data false 1 [] true] [(0, 2, (.slot 11))]⟩,
  ⟨some 13, none, .box 2 (.slot 12)⟩,
  ⟨some 5, none, .mov (.slot 13)⟩]
def q126R2 : List AOper := [⟨some 14, none, .mov (.slot 1)⟩,
  ⟨some 15, none, .mov (.slot 5)⟩,
  ⟨some 16, none, .mov (.slot 5)⟩,
  ⟨some 17, none, .mkfn (.func n_token_arbiter_on) [(.slot 16)] []⟩,
  ⟨some 18, none, .callv (.slot 14) [(.slot 15), (.slot 17)]⟩]
def q126R3 : List AOper := [⟨some 19, none, .mov (.slot 5)⟩,
  ⟨some 20, none, .nilchk (.slot 19)⟩,
  ⟨some 21, none, .faddr 0 (.slot 20)⟩,
  ⟨some 22, none, .load true 2 (.slot 21)⟩,
  ⟨none, none, .store true 2 (.slot 4) (.slot 22)⟩]
def c_token_change : AFn := ⟨(.seq (.region q126R0 false [1, 2, 4]) (.seq (.region q126R1 true [1, 4, 5]) (.seq (.region q126R2 false [4, 5]) (.seq (.region q126R3 false [4]) .ret)))), [.cell 4 true 2]⟩
/- slices.Index[[]int,int] -/
def q112R0 : List AOper := [⟨some 4, none, .mov (.const (.int .i64 0))⟩]
def q112R1 : List AOper := [⟨some 6, none, .mov (.slot 0)⟩,
  ⟨some 7, none, .len false (.slot 6)⟩,
  ⟨some 8, none, .mov (.const (.int .i64 0))⟩]
def q112R2 : List AOper := [⟨some 9, none, .bin .lss (.slot 8) (.slot 7)⟩]
def q112R3 : List AOper := [⟨some 10, none, .mov (.slot 8)⟩,
  ⟨some 5, none, .mov (.slot 10)⟩]
def q112R4 : List AOper := [⟨some 11, none, .mov (.slot 1)⟩,
  ⟨some 12, none, .mov (.slot 0)⟩,
  ⟨some 13, none, .mov (.slot 5)⟩,
  ⟨some 14, none, .idx 1 (.slot 12) (.slot 13)⟩,
  ⟨some 15, none, .load false 1 (.slot 14)⟩,
  ⟨some 16, none, .bin .eql (.slot 11) (.slot 15)⟩]
def q112R5 : List AOper := [⟨some 17, none, .mov (.slot 5)⟩,
  ⟨some 4, none, .mov (.slot 17)⟩]
def q112R6 : List AOper := [⟨some 18, none, .bin .add (.slot 8) (.const (.int .i64 1))⟩,
  ⟨some 8, none, .mov (.slot 18)⟩]
def c_slices_Index_int_L0 : ACode := (.seq (.region q112R2 false [0, 1, 7, 8, 9]) (.seq (.cond (.slot 9) .skip (.exit 0)) (.seq (.block 1 (.seq (.region q112R3 false [0, 1, 5, 7, 8]) (.seq (.region q112R4 false [0, 1, 5, 7, 8, 16]) (.cond (.slot 16) (.seq (.region q112R5 false [4]) .ret) .skip)))) (.region q112R6 false [0, 1, 7, 8]))))
def lp_slices_Index_int_0 : ACode := .loop [0, 1, 7, 8] c_slices_Index_int_L0
def q112R7 : List AOper := [⟨some 4, none, .mov (.const (.int .i64 (-1)))⟩]
def c_slices_Index_int : AFn := ⟨(.seq (.region q112R0 false [0, 1]) (.seq (.seq (.region q112R1 false [0, 1, 7, 8]) (.block 0 lp_slices_Index_int_0)) (.seq (.region q112R7 false [4]) .ret))), [.slot 4]⟩
/- slices.Contains[[]int,int] -/
def q100R0 : List AOper := [⟨some 4, none, .mov (.const (.bool false))⟩]
def q100R1 : List AOper := [⟨some 5, none, .mov (.slot 0)⟩,
  ⟨some 6, none, .mov (.slot 1)⟩,
  ⟨some 7, none, .call .frz n_slices_Index_int [(.slot 5), (.slot 6)]⟩,
  ⟨some 8, none, .bin .geq (.slot 7) (.const (.int .i64 0))⟩,
  ⟨some 4, none, .mov (.slot 8)⟩]
def c_slices_Contains_int : AFn := ⟨(.seq (.region q100R0 false [0, 1]) (.seq (.region q100R1 false [4]) .ret)), [.slot 4]⟩
/- oriel/token.Keep'1 -/
def q121R0 : List AOper := [⟨some 3, none, .mov (.const (.bool false))⟩]
def q121R1 : List AOper := [⟨some 4, none, .load false 1 (.slot 1)⟩,
  ⟨some 5, none, .mov (.slot 0)⟩,
  ⟨some 6, none, .call .frz n_slices_Contains_int [(.slot 4), (.slot 5)]⟩,
  ⟨some 7, none, .not (.slot 6)⟩,
  ⟨some 3, none, .mov (.slot 7)⟩]
def c_token_Keep_1 : AFn := ⟨(.seq (.region q121R0 false [0, 1]) (.seq (.region q121R1 false [3]) .ret)), [.slot 3]⟩
/- slices.DeleteFunc[[]int,int] -/
def q103R0 : List AOper := [⟨some 4, none, .mov (.const (.data false 1 [] true))⟩]
def q103R1 : List AOper := [⟨some 8, none, .mov (.slot 0)⟩,
  ⟨some 9, none, .mov (.slot 1)⟩,
  ⟨some 10, none, .call .inl n_slices_IndexFunc_int [(.slot 8), (.slot 9)]⟩,
  ⟨some 5, none, .mov (.slot 10)⟩]
def q103R2 : List AOper := [⟨some 11, none, .mov (.slot 5)⟩,
  ⟨some 12, none, .bin .eql (.slot 11) (.const (.int .i64 (-1)))⟩]
def q103R3 : List AOper := [⟨some 13, none, .mov (.slot 0)⟩,
  ⟨some 4, none, .mov (.slot 13)⟩]
def q103R4 : List AOper := [⟨some 14, none, .mov (.slot 5)⟩,
  ⟨some 15, none, .bin .add (.slot 14) (.const (.int .i64 1))⟩,
  ⟨some 6, none, .mov (.slot 15)⟩]
def q103R5 : List AOper := [⟨some 16, none, .mov (.slot 6)⟩,
  ⟨some 17, none, .mov (.slot 0)⟩,
  ⟨some 18, none, .len false (.slot 17)⟩,
  ⟨some 19, none, .bin .lss (.slot 16) (.slot 18)⟩]
def q103R7 : List AOper := [⟨some 22, none, .mov (.slot 0)⟩,
  ⟨some 23, none, .mov (.slot 6)⟩,
  ⟨some 24, none, .idx 1 (.slot 22) (.slot 23)⟩,
  ⟨some 25, none, .load false 1 (.slot 24)⟩,
  ⟨some 7, none, .mov (.slot 25)⟩]
def q103R8 : List AOper := [⟨some 26, none, .mov (.slot 1)⟩,
  ⟨some 27, none, .mov (.slot 7)⟩,
  ⟨some 28, none, .callv (.slot 26) [(.slot 27)]⟩,
  ⟨some 29, none, .not (.slot 28)⟩]
def q103R9 : List AOper := [⟨some 30, none, .mov (.slot 0)⟩,
  ⟨some 31, none, .mov (.slot 5)⟩,
  ⟨some 32, none, .mov (.slot 7)⟩,
  ⟨some 33, none, .idx 1 (.slot 30) (.slot 31)⟩,
  ⟨none, none, .store false 1 (.slot 33) (.slot 32)⟩]
def q103R10 : List AOper := [⟨some 34, none, .mov (.slot 5)⟩,
  ⟨some 35, none, .bin .add (.slot 34) (.const (.int .i64 1))⟩,
  ⟨some 5, none, .mov (.slot 35)⟩]
def q103R6 : List AOper := [⟨some 20, none, .mov (.slot 6)⟩,
  ⟨some 21, none, .bin .add (.slot 20) (.const (.int .i64 1))⟩,
  ⟨some 6, none, .mov (.slot 21)⟩]
def c_slices_DeleteFunc_int_L0 : ACode := (.seq (.seq (.region q103R5 false [0, 1, 5, 6, 19]) (.cond (.slot 19) .skip (.exit 0))) (.seq (.block 1 (.seq (.region q103R7 false [0, 1, 5, 6, 7]) (.seq (.region q103R8 false [0, 1, 5, 6, 7, 29]) (.cond (.slot 29) (.seq (.region q103R9 false [0, 1, 5, 6]) (.region q103R10 false [0, 1, 5, 6])) .skip)))) (.region q103R6 false [0, 1, 5, 6])))
def lp_slices_DeleteFunc_int_0 : ACode := .loop [0, 1, 5, 6] c_slices_DeleteFunc_int_L0
def q103R11 : List AOper := [⟨some 36, none, .mov (.slot 0)⟩,
  ⟨some 37, none, .mov (.slot 5)⟩,
  ⟨some 38, none, .sl 1 (.slot 36) (some (.slot 37)) none none⟩,
  ⟨none, none, .clear [.int .i64 0] (.slot 38)⟩]
def q103R12 : List AOper := [⟨some 39, none, .mov (.slot 0)⟩,
  ⟨some 40, none, .mov (.slot 5)⟩,
  ⟨some 41, none, .sl 1 (.slot 39) none (some (.slot 40)) none⟩,
  ⟨some 4, none, .mov (.slot 41)⟩]
def c_slices_DeleteFunc_int : AFn := ⟨(.seq (.region q103R0 false [0, 1]) (.seq (.region q103R1 false [0, 1, 5]) (.seq (.seq (.region q103R2 false [0, 1, 5, 12]) (.cond (.slot 12) (.seq (.region q103R3 false [4]) .ret) .skip)) (.seq (.seq (.region q103R4 false [0, 1, 5, 6]) (.block 0 lp_slices_DeleteFunc_int_0)) (.seq (.region q103R11 false [0, 5]) (.seq (.region q103R12 false [4]) .ret)))))), [.slot 4]⟩
/- oriel/token.Keep'2 -/
def q122R0 : List AOper := [⟨some 5, none, .mov (.slot 0)⟩,
  ⟨some 6, none, .mov (.slot 0)⟩,
  ⟨some 7, none, .nilchk (.slot 6)⟩,
  ⟨some 8, none, .faddr 0 (.slot 7)⟩,
  ⟨some 9, none, .faddr 1 (.slot 8)⟩,
  ⟨some 10, none, .load false 1 (.slot 9)⟩,
  ⟨some 11, none, .load false 1 (.slot 2)⟩,
  ⟨some 12, none, .call .inl n_slices_DeleteFunc_int [(.slot 10), (.slot 11)]⟩,
  ⟨some 13, none, .nilchk (.slot 5)⟩,
  ⟨some 14, none, .faddr 0 (.slot 13)⟩,
  ⟨some 15, none, .faddr 1 (.slot 14)⟩,
  ⟨none, none, .store false 1 (.slot 15) (.slot 12)⟩]
def q122R1 : List AOper := [⟨some 16, none, .mov (.slot 0)⟩,
  ⟨some 17, none, .nilchk (.slot 16)⟩,
  ⟨some 18, none, .faddr 0 (.slot 17)⟩,
  ⟨some 19, none, .faddr 0 (.slot 18)⟩,
  ⟨some 20, none, .load false 1 (.slot 19)⟩,
  ⟨some 21, none, .bin .neq (.slot 20) (.const (.int .i64 0))⟩,
  ⟨some 22, none, .mov (.slot 21)⟩,
  ⟨some 23, some (22, true), .load false 1 (.slot 2)⟩,
  ⟨some 24, some (22, true), .mov (.slot 0)⟩,
  ⟨some 25, some (22, true), .nilchk (.slot 24)⟩,
  ⟨some 26, some (22, true), .faddr 0 (.slot 25)⟩,
  ⟨some 27, some (22, true), .faddr 0 (.slot 26)⟩,
  ⟨some 28, some (22, true), .load false 1 (.slot 27)⟩,
  ⟨some 29, some (22, true), .callv (.slot 23) [(.slot 28)]⟩,
  ⟨some 30, none, .pick (.slot 22) (.slot 29) (.const (.bool false))⟩]
def q122R2 : List AOper := [⟨some 31, none, .mov (.slot 1)⟩,
  ⟨some 32, none, .callv (.slot 31) []⟩]
def c_token_Keep_2 : AFn := ⟨(.seq (.region q122R0 true [0, 1, 2]) (.seq (.region q122R1 true [1, 30]) (.cond (.slot 30) (.region q122R2 false []) .skip))), []⟩
/- oriel/token.Keep -/
def q120R0 : List AOper := [⟨some 2, none, .box 2 (.slot 0)⟩,
  ⟨some 3, none, .box 1 (.slot 1)⟩,
  ⟨some 4, none, .alloc [.int .i64 0, .data false 1 [] true]⟩,
  ⟨some 5, none, .mov (.const (.int .i64 0))⟩]
def q120R1 : List AOper := [⟨some 7, none, .load true 2 (.slot 2)⟩,
  ⟨some 8, none, .call .frz n_token_May [(.slot 7)]⟩,
  ⟨some 9, none, .not (.slot 8)⟩]
def q120R2 : List AOper := [⟨some 10, none, .build [.int .i64 0, .data false 1 [] true] []⟩,
  ⟨none, none, .store true 2 (.slot 4) (.slot 10)⟩,
  ⟨some 5, none, .mov (.const (.int .i64 2))⟩]
def q120R3 : List AOper := [⟨some 11, none, .mkfn (.func n_token_Keep_1) [] [(.slot 3)]⟩,
  ⟨some 6, none, .alloc [.nilfn]⟩,
  ⟨none, none, .store false 1 (.slot 6) (.slot 11)⟩]
def q120R4 : List AOper := [⟨some 12, none, .load true 2 (.slot 2)⟩,
  ⟨some 13, none, .mkfn (.func n_token_Keep_2) [] [(.slot 6)]⟩,
  ⟨some 14, none, .call .inl n_token_change [(.slot 12), (.slot 13)]⟩,
  ⟨none, none, .store true 2 (.slot 4) (.slot 14)⟩,
  ⟨some 5, none, .mov (.const (.int .i64 0))⟩]
def c_token_Keep : AFn := ⟨(.seq (.region q120R0 false [2, 3, 4]) (.seq (.seq (.region q120R1 false [2, 3, 4, 9]) (.cond (.slot 9) (.seq (.region q120R2 false [4, 5]) .ret) .skip)) (.seq (.region q120R3 false [2, 4, 6]) (.seq (.region q120R4 false [4, 5]) .ret)))), [.cell 4 true 2, .slot 5]⟩
/- oriel/roster.Writers -/
def q63R0 : List AOper := [⟨some 2, none, .mov (.const (.data false 1 [] true))⟩]
def q63R1 : List AOper := [⟨some 6, none, .mov (.slot 0)⟩,
  ⟨some 7, none, .call .frz n_roster_May [(.slot 6)]⟩,
  ⟨some 8, none, .not (.slot 7)⟩]
def q63R2 : List AOper := [⟨some 2, none, .mov (.const (.data false 1 [] true))⟩]
def q63R3 : List AOper := [⟨some 3, none, .mknil 1⟩]
def q63R4 : List AOper := [⟨some 9, none, .mov (.slot 0)⟩,
  ⟨some 10, none, .len false (.slot 9)⟩,
  ⟨some 11, none, .mov (.const (.int .i64 0))⟩]
def q63R5 : List AOper := [⟨some 12, none, .bin .lss (.slot 11) (.slot 10)⟩]
def q63R6 : List AOper := [⟨some 13, none, .idx 2 (.slot 9) (.slot 11)⟩,
  ⟨some 14, none, .load true 2 (.slot 13)⟩,
  ⟨some 5, none, .alloc [.int .i64 0, .int .i64 0]⟩,
  ⟨none, none, .store true 2 (.slot 5) (.slot 14)⟩]
def q63R7 : List AOper := [⟨some 15, none, .faddr 1 (.slot 5)⟩,
  ⟨some 16, none, .load false 1 (.slot 15)⟩,
  ⟨some 17, none, .bin .eql (.slot 16) (.const (.int .i64 2))⟩]
def q63R8 : List AOper := [⟨some 18, none, .mov (.slot 3)⟩,
  ⟨some 19, none, .faddr 0 (.slot 5)⟩,
  ⟨some 20, none, .load false 1 (.slot 19)⟩,
  ⟨some 21, none, .mkslice 1 1 [.int .i64 0] [(0, (.slot 20))]⟩,
  ⟨some 22, none, .append 1 8 (.slot 18) (.slot 21)⟩,
  ⟨some 3, none, .mov (.slot 22)⟩]
def q63R9 : List AOper := [⟨some 23, none, .bin .add (.slot 11) (.const (.int .i64 1))⟩,
  ⟨some 11, none, .mov (.slot 23)⟩]
def c_roster_Writers_L0 : ACode := (.seq (.region q63R5 false [3, 9, 10, 11, 12]) (.seq (.cond (.slot 12) .skip (.exit 0)) (.seq (.block 1 (.seq (.region q63R6 false [3, 5, 9, 10, 11]) (.seq (.region q63R7 false [3, 5, 9, 10, 11, 17]) (.cond (.slot 17) (.region q63R8 false [3, 9, 10, 11]) .skip)))) (.region q63R9 false [3, 9, 10, 11]))))
def lp_roster_Writers_0 : ACode := .loop [3, 9, 10, 11] c_roster_Writers_L0
def q63R10 : List AOper := [⟨some 24, none, .mov (.slot 3)⟩,
  ⟨some 2, none, .mov (.slot 24)⟩]
def c_roster_Writers : AFn := ⟨(.seq (.region q63R0 false [0]) (.seq (.seq (.region q63R1 false [0, 8]) (.cond (.slot 8) (.seq (.region q63R2 false [2]) .ret) .skip)) (.seq (.region q63R3 false [0, 3]) (.seq (.seq (.region q63R4 false [3, 9, 10, 11]) (.block 0 lp_roster_Writers_0)) (.seq (.region q63R10 false [2]) .ret))))), [.slot 2]⟩
/- oriel/size.member -/
def q90R0 : List AOper := [⟨some 2, none, .mov (.const (.bool false))⟩]
def q90R1 : List AOper := [⟨some 3, none, .mov (.slot 0)⟩,
  ⟨some 4, none, .bin .geq (.slot 3) (.const (.int .i64 1))⟩,
  ⟨some 5, none, .mov (.slot 4)⟩,
  ⟨some 6, some (5, true), .mov (.slot 0)⟩,
  ⟨some 7, some (5, true), .bin .leq (.slot 6) (.const (.int .i64 8))⟩,
  ⟨some 8, none, .pick (.slot 5) (.slot 7) (.const (.bool false))⟩,
  ⟨some 2, none, .mov (.slot 8)⟩]
def c_size_member : AFn := ⟨(.seq (.region q90R0 false [0]) (.seq (.region q90R1 false [2]) .ret)), [.slot 2]⟩
/- oriel/size.Least -/
def q87R0 : List AOper := [⟨some 3, none, .box 18 (.slot 0)⟩,
  ⟨some 5, none, .box 2 (.slot 2)⟩,
  ⟨some 6, none, .alloc [.int .i64 0, .int .i64 0]⟩]
def q87R1 : List AOper := [⟨some 12, none, .load true 18 (.slot 3)⟩,
  ⟨some 13, none, .call .frz n_size_May [(.slot 12)]⟩,
  ⟨some 14, none, .not (.slot 13)⟩]
def q87R2 : List AOper := [⟨some 15, none, .load true 2 (.slot 5)⟩,
  ⟨none, none, .store true 2 (.slot 6) (.slot 15)⟩]
def q87R3 : List AOper := [⟨some 16, none, .build [.int .i64 0, .int .i64 0] [(0, 1, (.const (.int .i64 24))), (1, 1, (.const (.int .i64 40)))]⟩,
  ⟨some 7, none, .alloc [.int .i64 0, .int .i64 0]⟩,
  ⟨none, none, .store true 2 (.slot 7) (.slot 16)⟩,
  ⟨some 8, none, .mov (.const (.bool false))⟩]
def q87R4 : List AOper := [⟨some 17, none, .mov (.slot 1)⟩,
  ⟨some 18, none, .len false (.slot 17)⟩,
  ⟨some 19, none, .mov (.const (.int .i64 0))⟩]
def q87R5 : List AOper := [⟨some 20, none, .bin .lss (.slot 19) (.slot 18)⟩]
def q87R6 : List AOper := [⟨some 21, none, .idx 1 (.slot 17) (.slot 19)⟩,
  ⟨some 22, none, .load false 1 (.slot 21)⟩,
  ⟨some 10, none, .mov (.slot 22)⟩]
def q87R7 : List AOper := [⟨some 23, none, .mov (.slot 10)⟩,
  ⟨some 24, none, .call .frz n_size_member [(.slot 23)]⟩,
  ⟨some 25, none, .not (.slot 24)⟩,
  ⟨some 26, none, .mov (.slot 25)⟩,
  ⟨some 27, some (26, false), .mov (.slot 10)⟩,
  ⟨some 28, some (26, false), .idxarr 2 9 (.slot 3) (.slot 27)⟩,
  ⟨some 29, some (26, false), .load true 2 (.slot 28)⟩,
  ⟨some 30, some (26, false), .build [.int .i64 0, .int .i64 0] []⟩,
  ⟨some 31, some (26, false), .eq true [.ki, .ki] false (.slot 29) (.slot 30)⟩,
  ⟨some 32, none, .pick (.slot 26) (.const (.bool true)) (.slot 31)⟩]
def q87R8 : List AOper := [⟨some 8, none, .mov (.const (.bool true))⟩]
def q87R9 : List AOper := [⟨some 33, none, .mov (.const (.int .i64 0))⟩]
def q87R10 : List AOper := [⟨some 34, none, .bin .lss (.slot 33) (.const (.int .i64 2))⟩]
def q87R11 : List AOper := [⟨some 35, none, .mov (.slot 33)⟩,
  ⟨some 11, none, .mov (.slot 35)⟩]
def q87R12 : List AOper := [⟨some 36, none, .mov (.slot 11)⟩,
  ⟨some 37, none, .mov (.slot 11)⟩,
  ⟨some 38, none, .idxarr 1 2 (.slot 7) (.slot 37)⟩,
  ⟨some 39, none, .load false 1 (.slot 38)⟩,
  ⟨some 40, none, .mov (.slot 10)⟩,
  ⟨some 41, none, .mov (.slot 11)⟩,
  ⟨some 42, none, .idxarr 2 9 (.slot 3) (.slot 40)⟩,
  ⟨some 43, none, .idxarr 1 2 (.slot 42) (.slot 41)⟩,
  ⟨some 44, none, .load false 1 (.slot 43)⟩,
  ⟨some 45, none, .min (.slot 39) (.slot 44)⟩,
  ⟨some 46, none, .idxarr 1 2 (.slot 7) (.slot 36)⟩,
  ⟨none, none, .store false 1 (.slot 46) (.slot 45)⟩]
def q87R13 : List AOper := [⟨some 47, none, .bin .add (.slot 33) (.const (.int .i64 1))⟩,
  ⟨some 33, none, .mov (.slot 47)⟩]
def c_size_Least_L1 : ACode := (.seq (.region q87R10 false [3, 5, 6, 7, 8, 10, 17, 18, 19, 33, 34]) (.seq (.cond (.slot 34) .skip (.exit 2)) (.seq (.block 3 (.seq (.region q87R11 false [3, 5, 6, 7, 8, 10, 11, 17, 18, 19, 33]) (.region q87R12 true [3, 5, 6, 7, 8, 10, 17, 18, 19, 33]))) (.region q87R13 false [3, 5, 6, 7, 8, 10, 17, 18, 19, 33]))))
def lp_size_Least_1 : ACode := .loop [3, 5, 6, 7, 8, 10, 17, 18, 19, 33] c_size_Least_L1
def q87R14 : List AOper := [⟨some 48, none, .bin .add (.slot 19) (.const (.int .i64 1))⟩,
  ⟨some 19, none, .mov (.slot 48)⟩]
def c_size_Least_L0 : ACode := (.seq (.region q87R5 false [3, 5, 6, 7, 8, 17, 18, 19, 20]) (.seq (.cond (.slot 20) .skip (.exit 0)) (.seq (.block 1 (.seq (.region q87R6 false [3, 5, 6, 7, 8, 10, 17, 18, 19]) (.seq (.seq (.region q87R7 false [3, 5, 6, 7, 8, 10, 17, 18, 19, 32]) (.cond (.slot 32) (.exit 1) .skip)) (.seq (.region q87R8 false [3, 5, 6, 7, 8, 10, 17, 18, 19]) (.seq (.region q87R9 false [3, 5, 6, 7, 8, 10, 17, 18, 19, 33]) (.block 2 lp_size_Least_1)))))) (.region q87R14 false [3, 5, 6, 7, 8, 17, 18, 19]))))
def lp_size_Least_0 : ACode := .loop [3, 5, 6, 7, 8, 17, 18, 19] c_size_Least_L0
def q87R15 : List AOper := [⟨some 49, none, .mov (.slot 8)⟩,
  ⟨some 50, none, .not (.slot 49)⟩]
def q87R16 : List AOper := [⟨some 51, none, .load true 2 (.slot 5)⟩,
  ⟨none, none, .store true 2 (.slot 6) (.slot 51)⟩]
def q87R17 : List AOper := [⟨some 52, none, .load true 2 (.slot 7)⟩,
  ⟨none, none, .store true 2 (.slot 6) (.slot 52)⟩]
def c_size_Least : AFn := ⟨(.seq (.region q87R0 false [1, 3, 5, 6]) (.seq (.seq (.region q87R1 false [1, 3, 5, 6, 14]) (.cond (.slot 14) (.seq (.region q87R2 false [6]) .ret) .skip)) (.seq (.region q87R3 false [1, 3, 5, 6, 7, 8]) (.seq (.seq (.region q87R4 false [3, 5, 6, 7, 8, 17, 18, 19]) (.block 0 lp_size_Least_0)) (.seq (.seq (.region q87R15 false [5, 6, 7, 50]) (.cond (.slot 50) (.seq (.region q87R16 false [6]) .ret) .skip)) (.seq (.region q87R17 false [6]) .ret)))))), [.cell 6 true 2]⟩
/- oriel/session.settled -/
def q84R0 : List AOper := [⟨some 1, none, .box 33 (.slot 0)⟩,
  ⟨some 2, none, .alloc (.data false 2 [] true :: .int .i64 0 :: .data false 1 [] true :: .data false 3 [] true :: .int .i64 0 :: .int .i64 0 :: .int .i64 0 :: .int .i64 0 :: .int .i64 0 :: .int .i64 0 :: .int .i64 0 :: .int .i64 0 :: .int .i64 0 :: .int .i64 0 :: .int .i64 0 :: .int .i64 0 :: .int .i64 0 :: .int .i64 0 :: .int .i64 0 :: .int .i64 0 :: .int .i64 0 :: .int .i64 0 :: .int .i64 0 :: .int .i64 0 :: .int .i64 0 :: .int .i64 0 :: .int .i64 0 :: .int .i64 0 :: .int .i64 0 :: .int .i64 0 :: .int .i64 0 :: .int .i64 0 :: .int .i64 0 :: [])⟩]
def q84R1 : List AOper := [⟨some 8, none, .faddr 1 (.slot 1)⟩,
  ⟨some 9, none, .load true 2 (.slot 8)⟩,
  ⟨some 10, none, .faddr 0 (.slot 1)⟩,
  ⟨some 11, none, .load false 1 (.slot 10)⟩,
  ⟨some 12, none, .call .frz n_roster_Writers [(.slot 11)]⟩,
  ⟨some 13, none, .call .frz n_token_Keep [(.slot 9), (.slot 12)]⟩,
  ⟨some 7, none, .mov (.slot 13)⟩,
  ⟨some 14, none, .extract 0 (.slot 7)⟩,
  ⟨some 15, none, .extract 1 (.slot 7)⟩,
  ⟨some 16, none, .faddr 1 (.slot 1)⟩,
  ⟨none, none, .store true 2 (.slot 16) (.slot 14)⟩]
def q84R2 : List AOper := [⟨some 3, none, .mknil 1⟩]
def q84R3 : List AOper := [⟨some 17, none, .faddr 0 (.slot 1)⟩,
  ⟨some 18, none, .load false 1 (.slot 17)⟩,
  ⟨some 19, none, .len false (.slot 18)⟩,
  ⟨some 20, none, .mov (.const (.int .i64 0))⟩]
def q84R4 : List AOper := [⟨some 21, none, .bin .lss (.slot 20) (.slot 19)⟩]
def q84R5 : List AOper := [⟨some 22, none, .idx 2 (.slot 18) (.slot 20)⟩,
  ⟨some 23, none, .load true 2 (.slot 22)⟩,
  ⟨some 5, none, .alloc [.int .i64 0, .int .i64 0]⟩,
  ⟨none, none, .store true 2 (.slot 5) (.slot 23)⟩]
def q84R6 : List AOper := [⟨some 24, none, .mov (.slot 3)⟩,
  ⟨some 25, none, .faddr 0 (.slot 5)⟩,
  ⟨some 26, none, .load false 1 (.slot 25)⟩,
  ⟨some 27, none, .mkslice 1 1 [.int .i64 0] [(0, (.slot 26))]⟩,
  ⟨some 28, none, .append 1 8 (.slot 24) (.slot 27)⟩,
  ⟨some 3, none, .mov (.slot 28)⟩]
def q84R7 : List AOper := [⟨some 29, none, .bin .add (.slot 20) (.const (.int .i64 1))⟩,
  ⟨some 20, none, .mov (.slot 29)⟩]
def c_session_settled_L0 : ACode := (.seq (.region q84R4 false [1, 2, 3, 18, 19, 20, 21]) (.seq (.cond (.slot 21) .skip (.exit 0)) (.seq (.block 1 (.seq (.region q84R5 false [1, 2, 3, 5, 18, 19, 20]) (.region q84R6 false [1, 2, 3, 18, 19, 20]))) (.region q84R7 false [1, 2, 3, 18, 19, 20]))))
def lp_session_settled_0 : ACode := .loop [1, 2, 3, 18, 19, 20] c_session_settled_L0
def q84R8 : List AOper := [⟨some 30, none, .faddr 4 (.slot 1)⟩,
  ⟨some 31, none, .load true 18 (.slot 30)⟩,
  ⟨some 32, none, .mov (.slot 3)⟩,
  ⟨some 33, none, .faddr 22 (.slot 1)⟩,
  ⟨some 34, none, .load false 1 (.slot 33)⟩,
  ⟨some 35, none, .faddr 23 (.slot 1)⟩,
  ⟨some 36, none, .load false 1 (.slot 35)⟩,
  ⟨some 37, none, .build [.int .i64 0, .int .i64 0] [(0, 1, (.slot 34)), (1, 1, (.slot 36))]⟩,
  ⟨some 38, none, .call .frz n_size_Least [(.slot 31), (.slot 32), (.slot 37)]⟩,
  ⟨some 6, none, .alloc [.int .i64 0, .int .i64 0]⟩,
  ⟨none, none, .store true 2 (.slot 6) (.slot 38)⟩]
def q84R9 : List AOper := [⟨some 39, none, .idxarr 1 2 (.slot 6) (.const (.int .i64 0))⟩,
  ⟨some 40, none, .load false 1 (.slot 39)⟩,
  ⟨some 41, none, .idxarr 1 2 (.slot 6) (.const (.int .i64 1))⟩,
  ⟨some 42, none, .load false 1 (.slot 41)⟩,
  ⟨some 43, none, .faddr 22 (.slot 1)⟩,
  ⟨none, none, .store false 1 (.slot 43) (.slot 40)⟩,
  ⟨some 44, none, .faddr 23 (.slot 1)⟩,
  ⟨none, none, .store false 1 (.slot 44) (.slot 42)⟩]
def q84R10 : List AOper := [⟨some 45, none, .load true 33 (.slot 1)⟩,
  ⟨none, none, .store true 33 (.slot 2) (.slot 45)⟩]
def c_session_settled : AFn := ⟨(.seq (.region q84R0 false [1, 2]) (.seq (.region q84R1 true [1, 2]) (.seq (.region q84R2 false [1, 2, 3]) (.seq (.seq (.region q84R3 false [1, 2, 3, 18, 19, 20]) (.block 0 lp_session_settled_0)) (.seq (.region q84R8 false [1, 2, 6]) (.seq (.regionQ q84R9 [0, 1, 2, 3, 4, 5, 6, 7] [(3, [5, 7])] [1, 2]) (.seq (.region q84R10 false [2]) .ret))))))), [.cell 2 true 33]⟩
/- oriel/session.with -/
def q85R0 : List AOper := [⟨some 3, none, .box 33 (.slot 0)⟩,
  ⟨some 6, none, .alloc (.data false 2 [] true :: .int .i64 0 :: .data false 1 [] true :: .data false 3 [] true :: .int .i64 0 :: .int .i64 0 :: .int .i64 0 :: .int .i64 0 :: .int .i64 0 :: .int .i64 0 :: .int .i64 0 :: .int .i64 0 :: .int .i64 0 :: .int .i64 0 :: .int .i64 0 :: .int .i64 0 :: .int .i64 0 :: .int .i64 0 :: .int .i64 0 :: .int .i64 0 :: .int .i64 0 :: .int .i64 0 :: .int .i64 0 :: .int .i64 0 :: .int .i64 0 :: .int .i64 0 :: .int .i64 0 :: .int .i64 0 :: .int .i64 0 :: .int .i64 0 :: .int .i64 0 :: .int .i64 0 :: .int .i64 0 :: [])⟩,
  ⟨some 7, none, .mov (.const (.int .i64 0))⟩]
def q85R1 : List AOper := [⟨some 11, none, .mov (.slot 2)⟩,
  ⟨some 12, none, .bin .neq (.slot 11) (.const (.int .i64 0))⟩]
def q85R2 : List AOper := [⟨some 13, none, .build (.data false 2 [] true :: .int .i64 0 :: .data false 1 [] true :: .data false 3 [] true :: .int .i64 0 :: .int .i64 0 :: .int .i64 0 :: .int .i64 0 :: .int .i64 0 :: .int .i64 0 :: .int .i64 0 :: .int .i64 0 :: .int .i64 0 :: .int .i64 0 :: .int .i64 0 :: .int .i64 0 :: .int .i64 0 :: .int .i64 0 :: .int .i64 0 :: .int .i64 0 :: .int .i64 0 :: .int .i64 0 :: .int .i64 0 :: .int .i64 0 :: .int .i64 0 :: .int .i64 0 :: .int .i64 0 :: .int .i64 0 :: .int .i64 0 :: .int .i64 0 :: .int .i64 0 :: .int .i64 0 :: .int .i64 0 :: []) []⟩,
  ⟨some 14, none, .mov (.slot 2)⟩,
  ⟨none, none, .store true 33 (.slot 6) (.slot 13)⟩,
  ⟨some 7, none, .mov (.slot 14)⟩]
def q85R3 : List AOper := [⟨some 15, none, .load true 33 (.slot 3)⟩,
  ⟨some 16, none, .call .frz n_session_copied [(.slot 15)]⟩,
  ⟨none, none, .store true 33 (.slot 3) (.slot 16)⟩]
def q85R4 : List AOper := [⟨some 17, none, .mov (.slot 1)⟩,
  ⟨some 18, none, .faddr 0 (.slot 3)⟩,
  ⟨none, none, .store false 1 (.slot 18) (.slot 17)⟩]
def q85R5 : List AOper := [⟨some 19, none, .mov (.const (.int .i64 0))⟩]
def q85R6 : List AOper := [⟨some 20, none, .bin .lss (.slot 19) (.const (.int .i64 9))⟩]
def q85R7 : List AOper := [⟨some 21, none, .mov (.slot 19)⟩,
  ⟨some 8, none, .mov (.slot 21)⟩]
def q85R8 : List AOper := [⟨some 23, none, .mov (.slot 1)⟩,
  ⟨some 24, none, .mov (.slot 8)⟩,
  ⟨some 25, none, .call .frz n_roster_Find [(.slot 23), (.slot 24)]⟩,
  ⟨some 22, none, .mov (.slot 25)⟩,
  ⟨some 26, none, .extract 0 (.slot 22)⟩,
  ⟨some 27, none, .extract 1 (.slot 22)⟩,
  ⟨some 9, none, .alloc [.int .i64 0, .int .i64 0]⟩,
  ⟨none, none, .store true 2 (.slot 9) (.slot 26)⟩,
  ⟨some 10, none, .mov (.slot 27)⟩]
def q85R9 : List AOper := [⟨some 28, none, .mov (.slot 10)⟩,
  ⟨some 29, none, .not (.slot 28)⟩]
def q85R10 : List AOper := [⟨some 30, none, .mov (.slot 8)⟩,
  ⟨some 31, none, .mov (.slot 8)⟩,
  ⟨some 32, none, .build [.int .i64 0, .int .i64 0] []⟩,
  ⟨some 33, none, .faddr 24 (.slot 3)⟩,
  ⟨some 34, none, .idxarr 1 9 (.slot 33) (.slot 30)⟩,
  ⟨none, none, .store false 1 (.slot 34) (.const (.int .i64 0))⟩,
  ⟨some 35, none, .faddr 4 (.slot 3)⟩,
  ⟨some 36, none, .idxarr 2 9 (.slot 35) (.slot 31)⟩,
  ⟨none, none, .store true 2 (.slot 36) (.slot 32)⟩]
def q85R11 : List AOper := [⟨some 37, none, .faddr 3 (.slot 3)⟩,
  ⟨some 38, none, .load false 1 (.slot 37)⟩,
  ⟨some 39, none, .mov (.slot 8)⟩,
  ⟨some 40, none, .call .frz n_merge_Drop [(.slot 38), (.slot 39)]⟩,
  ⟨some 41, none, .faddr 3 (.slot 3)⟩,
  ⟨none, none, .store false 1 (.slot 41) (.slot 40)⟩]
def q85R12 : List AOper := [⟨some 42, none, .bin .add (.slot 19) (.const (.int .i64 1))⟩,
  ⟨some 19, none, .mov (.slot 42)⟩]
def c_session_with_L0 : ACode := (.seq (.region q85R6 false [1, 3, 6, 19, 20]) (.seq (.cond (.slot 20) .skip (.exit 0)) (.seq (.block 1 (.seq (.region q85R7 false [1, 3, 6, 8, 19]) (.seq (.region q85R8 false [1, 3, 6, 8, 10, 19]) (.seq (.region q85R9 false [1, 3, 6, 8, 19, 29]) (.cond (.slot 29) (.seq (.region q85R10 false [1, 3, 6, 8, 19]) (.region q85R11 false [1, 3, 6, 19])) .skip))))) (.region q85R12 false [1, 3, 6, 19]))))
def lp_session_with_0 : ACode := .loop [1, 3, 6, 19] c_session_with_L0
def q85R13 : List AOper := [⟨some 43, none, .load true 33 (.slot 3)⟩,
  ⟨some 44, none, .call .frz n_session_settled [(.slot 43)]⟩,
  ⟨none, none, .store true 33 (.slot 6) (.slot 44)⟩,
  ⟨some 7, none, .mov (.const (.int .i64 0))⟩]
def c_session_with : AFn := ⟨(.seq (.region q85R0 false [1, 2, 3, 6]) (.seq (.seq (.region q85R1 false [1, 2, 3, 6, 12]) (.cond (.slot 12) (.seq (.region q85R2 false [6, 7]) .ret) .skip)) (.seq (.region q85R3 false [1, 3, 6]) (.seq (.region q85R4 false [1, 3, 6]) (.seq (.seq (.region q85R5 false [1, 3, 6, 19]) (.block 0 lp_session_with_0)) (.seq (.region q85R13 false [6, 7]) .ret)))))), [.cell 6 true 33, .slot 7]⟩
/- oriel/session.Join -/
def q69R0 : List AOper := [⟨some 3, none, .box 33 (.slot 0)⟩,
  ⟨some 6, none, .alloc (.data false 2 [] true :: .int .i64 0 :: .data false 1 [] true :: .data false 3 [] true :: .int .i64 0 :: .int .i64 0 :: .int .i64 0 :: .int .i64 0 :: .int .i64 0 :: .int .i64 0 :: .int .i64 0 :: .int .i64 0 :: .int .i64 0 :: .int .i64 0 :: .int .i64 0 :: .int .i64 0 :: .int .i64 0 :: .int .i64 0 :: .int .i64 0 :: .int .i64 0 :: .int .i64 0 :: .int .i64 0 :: .int .i64 0 :: .int .i64 0 :: .int .i64 0 :: .int .i64 0 :: .int .i64 0 :: .int .i64 0 :: .int .i64 0 :: .int .i64 0 :: .int .i64 0 :: .int .i64 0 :: .int .i64 0 :: [])⟩,
  ⟨some 7, none, .mov (.const (.int .i64 0))⟩]
def q69R1 : List AOper := [⟨some 10, none, .load true 33 (.slot 3)⟩,
  ⟨some 11, none, .call .frz n_session_May [(.slot 10)]⟩,
  ⟨some 12, none, .not (.slot 11)⟩]
def q69R2 : List AOper := [⟨some 13, none, .build (.data false 2 [] true :: .int .i64 0 :: .data false 1 [] true :: .data false 3 [] true :: .int .i64 0 :: .int .i64 0 :: .int .i64 0 :: .int .i64 0 :: .int .i64 0 :: .int .i64 0 :: .int .i64 0 :: .int .i64 0 :: .int .i64 0 :: .int .i64 0 :: .int .i64 0 :: .int .i64 0 :: .int .i64 0 :: .int .i64 0 :: .int .i64 0 :: .int .i64 0 :: .int .i64 0 :: .int .i64 0 :: .int .i64 0 :: .int .i64 0 :: .int .i64 0 :: .int .i64 0 :: .int .i64 0 :: .int .i64 0 :: .int .i64 0 :: .int .i64 0 :: .int .i64 0 :: .int .i64 0 :: .int .i64 0 :: []) []⟩,
  ⟨none, none, .store true 33 (.slot 6) (.slot 13)⟩,
  ⟨some 7, none, .mov (.const (.int .i64 2))⟩]
def q69R3 : List AOper := [⟨some 15, none, .faddr 0 (.slot 3)⟩,
  ⟨some 16, none, .load false 1 (.slot 15)⟩,
  ⟨some 17, none, .mov (.slot 1)⟩,
  ⟨some 18, none, .mov (.slot 2)⟩,
  ⟨some 19, none, .call .frz n_roster_Join [(.slot 16), (.slot 17), (.slot 18)]⟩,
  ⟨some 14, none, .mov (.slot 19)⟩,
  ⟨some 20, none, .extract 0 (.slot 14)⟩,
  ⟨some 21, none, .extract 1 (.slot 14)⟩,
  ⟨some 8, none, .mov (.slot 20)⟩,
  ⟨some 9, none, .mov (.slot 21)⟩]
def q69R4 : List AOper := [⟨some 22, none, .load true 33 (.slot 3)⟩,
  ⟨some 23, none, .mov (.slot 8)⟩,
  ⟨some 24, none, .mov (.slot 9)⟩,
  ⟨some 25, none, .call .frz n_session_with [(.slot 22), (.slot 23), (.slot 24)]⟩,
  ⟨some 26, none, .extract 0 (.slot 25)⟩,
  ⟨some 27, none, .extract 1 (.slot 25)⟩,
  ⟨none, none, .store true 33 (.slot 6) (.slot 26)⟩,
  ⟨some 7, none, .mov (.slot 27)⟩]
def c_session_Join : AFn := ⟨(.seq (.region q69R0 false [1, 2, 3, 6]) (.seq (.seq (.region q69R1 false [1, 2, 3, 6, 12]) (.cond (.slot 12) (.seq (.region q69R2 false [6, 7]) .ret) .skip)) (.seq (.region q69R3 false [3, 6, 8, 9]) (.seq (.region q69R4 false [6, 7]) .ret)))), [.cell 6 true 33, .slot 7]⟩
/- slices.DeleteFunc[[]oriel/api.Member,oriel/api.Member] -/
def q101R0 : List AOper := [⟨some 4, none, .mov (.const (.data false 2 [] true))⟩]
def q101R1 : List AOper := [⟨some 8, none, .mov (.slot 0)⟩,
  ⟨some 9, none, .mov (.slot 1)⟩,
  ⟨some 10, none, .call .inl n_slices_IndexFunc_Member [(.slot 8), (.slot 9)]⟩,
  ⟨some 5, none, .mov (.slot 10)⟩]
def q101R2 : List AOper := [⟨some 11, none, .mov (.slot 5)⟩,
  ⟨some 12, none, .bin .eql (.slot 11) (.const (.int .i64 (-1)))⟩]
def q101R3 : List AOper := [⟨some 13, none, .mov (.slot 0)⟩,
  ⟨some 4, none, .mov (.slot 13)⟩]
def q101R4 : List AOper := [⟨some 14, none, .mov (.slot 5)⟩,
  ⟨some 15, none, .bin .add (.slot 14) (.const (.int .i64 1))⟩,
  ⟨some 6, none, .mov (.slot 15)⟩]
def q101R5 : List AOper := [⟨some 16, none, .mov (.slot 6)⟩,
  ⟨some 17, none, .mov (.slot 0)⟩,
  ⟨some 18, none, .len false (.slot 17)⟩,
  ⟨some 19, none, .bin .lss (.slot 16) (.slot 18)⟩]
def q101R7 : List AOper := [⟨some 22, none, .mov (.slot 0)⟩,
  ⟨some 23, none, .mov (.slot 6)⟩,
  ⟨some 24, none, .idx 2 (.slot 22) (.slot 23)⟩,
  ⟨some 25, none, .load true 2 (.slot 24)⟩,
  ⟨some 7, none, .alloc [.int .i64 0, .int .i64 0]⟩,
  ⟨none, none, .store true 2 (.slot 7) (.slot 25)⟩]
def q101R8 : List AOper := [⟨some 26, none, .mov (.slot 1)⟩,
  ⟨some 27, none, .load true 2 (.slot 7)⟩,
  ⟨some 28, none, .callv (.slot 26) [(.slot 27)]⟩,
  ⟨some 29, none, .not (.slot 28)⟩]
def q101R9 : List AOper := [⟨some 30, none, .mov (.slot 0)⟩,
  ⟨some 31, none, .mov (.slot 5)⟩,
  ⟨some 32, none, .load true 2 (.slot 7)⟩,
  ⟨some 33, none, .idx 2 (.slot 30) (.slot 31)⟩,
  ⟨none, none, .store true 2 (.slot 33) (.slot 32)⟩]
def q101R10 : List AOper := [⟨some 34, none, .mov (.slot 5)⟩,
  ⟨some 35, none, .bin .add (.slot 34) (.const (.int .i64 1))⟩,
  ⟨some 5, none, .mov (.slot 35)⟩]
def q101R6 : List AOper := [⟨some 20, none, .mov (.slot 6)⟩,
  ⟨some 21, none, .bin .add (.slot 20) (.const (.int .i64 1))⟩,
  ⟨some 6, none, .mov (.slot 21)⟩]
def c_slices_DeleteFunc_Member_L0 : ACode := (.seq (.seq (.region q101R5 false [0, 1, 5, 6, 19]) (.cond (.slot 19) .skip (.exit 0))) (.seq (.block 1 (.seq (.region q101R7 false [0, 1, 5, 6, 7]) (.seq (.region q101R8 false [0, 1, 5, 6, 7, 29]) (.cond (.slot 29) (.seq (.region q101R9 false [0, 1, 5, 6]) (.region q101R10 false [0, 1, 5, 6])) .skip)))) (.region q101R6 false [0, 1, 5, 6])))
def lp_slices_DeleteFunc_Member_0 : ACode := .loop [0, 1, 5, 6] c_slices_DeleteFunc_Member_L0
def q101R11 : List AOper := [⟨some 36, none, .mov (.slot 0)⟩,
  ⟨some 37, none, .mov (.slot 5)⟩,
  ⟨some 38, none, .sl 2 (.slot 36) (some (.slot 37)) none none⟩,
  ⟨none, none, .clear [.int .i64 0, .int .i64 0] (.slot 38)⟩]
def q101R12 : List AOper := [⟨some 39, none, .mov (.slot 0)⟩,
  ⟨some 40, none, .mov (.slot 5)⟩,
  ⟨some 41, none, .sl 2 (.slot 39) none (some (.slot 40)) none⟩,
  ⟨some 4, none, .mov (.slot 41)⟩]
def c_slices_DeleteFunc_Member : AFn := ⟨(.seq (.region q101R0 false [0, 1]) (.seq (.region q101R1 false [0, 1, 5]) (.seq (.seq (.region q101R2 false [0, 1, 5, 12]) (.cond (.slot 12) (.seq (.region q101R3 false [4]) .ret) .skip)) (.seq (.seq (.region q101R4 false [0, 1, 5, 6]) (.block 0 lp_slices_DeleteFunc_Member_0)) (.seq (.region q101R11 false [0, 5]) (.seq (.region q101R12 false [4]) .ret)))))), [.slot 4]⟩
/- oriel/roster.Leave'1 -/
def q60R0 : List AOper := [⟨some 2, none, .box 2 (.slot 0)⟩,
  ⟨some 3, none, .mov (.const (.bool false))⟩]
def q60R1 : List AOper := [⟨some 4, none, .load true 2 (.slot 2)⟩,
  ⟨some 5, none, .load true 2 (.slot 1)⟩,
  ⟨some 6, none, .eq true [.ki, .ki] false (.slot 4) (.slot 5)⟩,
  ⟨some 3, none, .mov (.slot 6)⟩]
def c_roster_Leave_1 : AFn := ⟨(.seq (.region q60R0 false [1, 2]) (.seq (.region q60R1 false [3]) .ret)), [.slot 3]⟩
/- oriel/roster.Leave -/
def q59R0 : List AOper := [⟨some 4, none, .mov (.const (.data false 2 [] true))⟩,
  ⟨some 5, none, .mov (.const (.int .i64 0))⟩]
def q59R1 : List AOper := [⟨some 8, none, .mov (.slot 0)⟩,
  ⟨some 9, none, .call .frz n_roster_May [(.slot 8)]⟩,
  ⟨some 10, none, .not (.slot 9)⟩]
def q59R2 : List AOper := [⟨some 4, none, .mov (.const (.data false 2 [] true))⟩,
  ⟨some 5, none, .mov (.const (.int .i64 2))⟩]
def q59R3 : List AOper := [⟨some 12, none, .mov (.slot 0)⟩,
  ⟨some 13, none, .mov (.slot 1)⟩,
  ⟨some 14, none, .call .frz n_roster_Find [(.slot 12), (.slot 13)]⟩,
  ⟨some 11, none, .mov (.slot 14)⟩,
  ⟨some 15, none, .extract 0 (.slot 11)⟩,
  ⟨some 16, none, .extract 1 (.slot 11)⟩,
  ⟨some 6, none, .alloc [.int .i64 0, .int .i64 0]⟩,
  ⟨none, none, .store true 2 (.slot 6) (.slot 15)⟩,
  ⟨some 7, none, .mov (.slot 16)⟩]
def q59R4 : List AOper := [⟨some 17, none, .mov (.slot 7)⟩,
  ⟨some 18, none, .not (.slot 17)⟩]
def q59R5 : List AOper := [⟨some 4, none, .mov (.const (.data false 2 [] true))⟩,
  ⟨some 5, none, .mov (.const (.int .i64 6))⟩]
def q59R6 : List AOper := [⟨some 19, none, .mov (.slot 0)⟩,
  ⟨some 20, none, .call .adp n_slices_Clone_Member [(.slot 19)]⟩,
  ⟨some 21, none, .mkfn (.func n_roster_Leave_1) [] [(.slot 6)]⟩,
  ⟨some 22, none, .call .inl n_slices_DeleteFunc_Member [(.slot 20), (.slot 21)]⟩,
  ⟨some 4, none, .mov (.slot 22)⟩,
  ⟨some 5, none, .mov (.const (.int .i64 0))⟩]
def c_roster_Leave : AFn := ⟨(.seq (.region q59R0 false [0, 1]) (.seq (.seq (.region q59R1 false [0, 1, 10]) (.cond (.slot 10) (.seq (.region q59R2 false [4, 5]) .ret) .skip)) (.seq (.region q59R3 false [0, 6, 7]) (.seq (.seq (.region q59R4 false [0, 6, 18]) (.cond (.slot 18) (.seq (.region q59R5 false [4, 5]) .ret) .skip)) (.seq (.region q59R6 false [4, 5]) .ret))))), [.slot 4, .slot 5]⟩
/- oriel/session.Leave -/
def q70R0 : List AOper := [⟨some 2, none, .box 33 (.slot 0)⟩,
  ⟨some 4, none, .alloc (.data false 2 [] true :: .int .i64 0 :: .data false 1 [] true :: .data false 3 [] true :: .int .i64 0 :: .int .i64 0 :: .int .i64 0 :: .int .i64 0 :: .int .i64 0 :: .int .i64 0 :: .int .i64 0 :: .int .i64 0 :: .int .i64 0 :: .int .i64 0 :: .int .i64 0 :: .int .i64 0 :: .int .i64 0 :: .int .i64 0 :: .int .i64 0 :: .int .i64 0 :: .int .i64 0 :: .int .i64 0 :: .int .i64 0 :: .int .i64 0 :: .int .i64 0 :: .int .i64 0 :: .int .i64 0 :: .int .i64 0 :: .int .i64 0 :: .int .i64 0 :: .int .i64 0 :: .int .i64 0 :: .int .i64 0 :: [])⟩,
  ⟨some 5, none, .mov (.const (.int .i64 0))⟩]
def q70R1 : List AOper := [⟨some 8, none, .load true 33 (.slot 2)⟩,
  ⟨some 9, none, .call .frz n_session_May [(.slot 8)]⟩,
  ⟨some 10, none, .not (.slot 9)⟩]
def q70R2 : List AOper := [⟨some 11, none, .build (.data false 2 [] true :: .int .i64 0 :: .data false 1 [] true :: .data false 3 [] true :: .int .i64 0 :: .int .i64 0 :: .int .i64 0 :: .int .i64 0 :: .int .i64 0 :: .int .i64 0 :: .int .i64 0 :: .int .i64 0 :: .int .i64 0 :: .int .i64 0 :: .int .i64 0 :: .int .i64 0 :: .int .i64 0 :: .int .i64 0 :: .int .i64 0 :: .int .i64 0 :: .int .i64 0 :: .int .i64 0 :: .int .i64 0 :: .int .i64 0 :: .int .i64 0 :: .int .i64 0 :: .int .i64 0 :: .int .i64 0 :: .int .i64 0 :: .int .i64 0 :: .int .i64 0 :: .int .i64 0 :: .int .i64 0 :: []) []⟩,
  ⟨none, none, .store true 33 (.slot 4) (.slot 11)⟩,
  ⟨some 5, none, .mov (.const (.int .i64 2))⟩]
def q70R3 : List AOper := [⟨some 13, none, .faddr 0 (.slot 2)⟩,
  ⟨some 14, none, .load false 1 (.slot 13)⟩,
  ⟨some 15, none, .mov (.slot 1)⟩,
  ⟨some 16, none, .call .frz n_roster_Leave [(.slot 14), (.slot 15)]⟩,
  ⟨some 12, none, .mov (.slot 16)⟩,
  ⟨some 17, none, .extract 0 (.slot 12)⟩,
  ⟨some 18, none, .extract 1 (.slot 12)⟩,
  ⟨some 6, none, .mov (.slot 17)⟩,
  ⟨some 7, none, .mov (.slot 18)⟩]
def q70R4 : List AOper := [⟨some 19, none, .load true 33 (.slot 2)⟩,
  ⟨some 20, none, .mov (.slot 6)⟩,
  ⟨some 21, none, .mov (.slot 7)⟩,
  ⟨some 22, none, .call .frz n_session_with [(.slot 19), (.slot 20), (.slot 21)]⟩,
  ⟨some 23, none, .extract 0 (.slot 22)⟩,
  ⟨some 24, none, .extract 1 (.slot 22)⟩,
  ⟨none, none, .store true 33 (.slot 4) (.slot 23)⟩,
  ⟨some 5, none, .mov (.slot 24)⟩]
def c_session_Leave : AFn := ⟨(.seq (.region q70R0 false [1, 2, 4]) (.seq (.seq (.region q70R1 false [1, 2, 4, 10]) (.cond (.slot 10) (.seq (.region q70R2 false [4, 5]) .ret) .skip)) (.seq (.region q70R3 false [2, 4, 6, 7]) (.seq (.region q70R4 false [4, 5]) .ret)))), [.cell 4 true 33, .slot 5]⟩
/- oriel/roster.Change -/
def q56R0 : List AOper := [⟨some 6, none, .mov (.const (.data false 2 [] true))⟩,
  ⟨some 7, none, .mov (.const (.int .i64 0))⟩]
def q56R1 : List AOper := [⟨some 13, none, .mov (.slot 0)⟩,
  ⟨some 14, none, .call .frz n_roster_May [(.slot 13)]⟩,
  ⟨some 15, none, .not (.slot 14)⟩,
  ⟨some 16, none, .mov (.slot 15)⟩,
  ⟨some 17, some (16, false), .mov (.slot 2)⟩,
  ⟨some 18, some (16, false), .call .frz n_roster_role [(.slot 17)]⟩,
  ⟨some 19, some (16, false), .not (.slot 18)⟩,
  ⟨some 20, none, .pick (.slot 16) (.const (.bool true)) (.slot 19)⟩]
def q56R2 : List AOper := [⟨some 6, none, .mov (.const (.data false 2 [] true))⟩,
  ⟨some 7, none, .mov (.const (.int .i64 2))⟩]
def q56R3 : List AOper := [⟨some 22, none, .mov (.slot 0)⟩,
  ⟨some 23, none, .mov (.slot 1)⟩,
  ⟨some 24, none, .call .frz n_roster_Find [(.slot 22), (.slot 23)]⟩,
  ⟨some 21, none, .mov (.slot 24)⟩,
  ⟨some 25, none, .extract 0 (.slot 21)⟩,
  ⟨some 26, none, .extract 1 (.slot 21)⟩,
  ⟨some 8, none, .alloc [.int .i64 0, .int .i64 0]⟩,
  ⟨none, none, .store true 2 (.slot 8) (.slot 25)⟩,
  ⟨some 9, none, .mov (.slot 26)⟩]
def q56R4 : List AOper := [⟨some 27, none, .mov (.slot 9)⟩,
  ⟨some 28, none, .not (.slot 27)⟩]
def q56R5 : List AOper := [⟨some 6, none, .mov (.const (.data false 2 [] true))⟩,
  ⟨some 7, none, .mov (.const (.int .i64 6))⟩]
def q56R6 : List AOper := [⟨some 29, none, .mov (.slot 0)⟩,
  ⟨some 30, none, .call .adp n_slices_Clone_Member [(.slot 29)]⟩,
  ⟨some 10, none, .mov (.slot 30)⟩]
def q56R7 : List AOper := [⟨some 32, none, .mov (.slot 0)⟩,
  ⟨some 33, none, .mov (.slot 1)⟩,
  ⟨some 34, none, .call .frz n_roster_place [(.slot 32), (.slot 33)]⟩,
  ⟨some 31, none, .mov (.slot 34)⟩,
  ⟨some 35, none, .extract 0 (.slot 31)⟩,
  ⟨some 36, none, .extract 1 (.slot 31)⟩,
  ⟨some 11, none, .mov (.slot 35)⟩,
  ⟨some 12, none, .mov (.slot 36)⟩]
def q56R8 : List AOper := [⟨some 37, none, .mov (.slot 10)⟩,
  ⟨some 38, none, .mov (.slot 11)⟩,
  ⟨some 39, none, .mov (.slot 2)⟩,
  ⟨some 40, none, .idx 2 (.slot 37) (.slot 38)⟩,
  ⟨some 41, none, .faddr 1 (.slot 40)⟩,
  ⟨none, none, .store false 1 (.slot 41) (.slot 39)⟩]
def q56R9 : List AOper := [⟨some 42, none, .mov (.slot 10)⟩,
  ⟨some 6, none, .mov (.slot 42)⟩,
  ⟨some 7, none, .mov (.const (.int .i64 0))⟩]
def c_roster_Change : AFn := ⟨(.seq (.region q56R0 false [0, 1, 2]) (.seq (.seq (.region q56R1 false [0, 1, 2, 20]) (.cond (.slot 20) (.seq (.region q56R2 false [6, 7]) .ret) .skip)) (.seq (.seq (.region q56R3 false [0, 1, 2, 9]) (.seq (.region q56R4 false [0, 1, 2, 28]) (.cond (.slot 28) (.seq (.region q56R5 false [6, 7]) .ret) .skip))) (.seq (.region q56R6 false [0, 1, 2, 10]) (.seq (.region q56R7 false [2, 10, 11]) (.seq (.region q56R8 false [10]) (.seq (.region q56R9 false [6, 7]) .ret))))))), [.slot 6, .slot 7]⟩
/- oriel/session.Change -/
def q67R0 : List AOper := [⟨some 3, none, .box 33 (.slot 0)⟩,
  ⟨some 6, none, .alloc (.data false 2 [] true :: .int .i64 0 :: .data false 1 [] true :: .data false 3 [] true :: .int .i64 0 :: .int .i64 0 :: .int .i64 0 :: .int .i64 0 :: .int .i64 0 :: .int .i64 0 :: .int .i64 0 :: .int .i64 0 :: .int .i64 0 :: .int .i64 0 :: .int .i64 0 :: .int .i64 0 :: .int .i64 0 :: .int .i64 0 :: .int .i64 0 :: .int .i64 0 :: .int .i64 0 :: .int .i64 0 :: .int .i64 0 :: .int .i64 0 :: .int .i64 0 :: .int .i64 0 :: .int .i64 0 :: .int .i64 0 :: .int .i64 0 :: .int .i64 0 :: .int .i64 0 :: .int .i64 0 :: .int .i64 0 :: [])⟩,
  ⟨some 7, none, .mov (.const (.int .i64 0))⟩]
def q67R1 : List AOper := [⟨some 10, none, .load true 33 (.slot 3)⟩,
  ⟨some 11, none, .call .frz n_session_May [(.slot 10)]⟩,
  ⟨some 12, none, .not (.slot 11)⟩]
def q67R2 : List AOper := [⟨some 13, none, .build (.data false 2 [] true :: .int .i64 0 :: .data false 1 [] true :: .data false 3 [] true :: .int .i64 0 :: .int .i64 0 :: .int .i64 0 :: .int .i64 0 :: .int .i64 0 :: .int .i64 0 :: .int .i64 0 :: .int .i64 0 :: .int .i64 0 :: .int .i64 0 :: .int .i64 0 :: .int .i64 0 :: .int .i64 0 :: .int .i64 0 :: .int .i64 0 :: .int .i64 0 :: .int .i64 0 :: .int .i64 0 :: .int .i64 0 :: .int .i64 0 :: .int .i64 0 :: .int .i64 0 :: .int .i64 0 :: .int .i64 0 :: .int .i64 0 :: .int .i64 0 :: .int .i64 0 :: .int .i64 0 :: .int .i64 0 :: []) []⟩,
  ⟨none, none, .store true 33 (.slot 6) (.slot 13)⟩,
  ⟨some 7, none, .mov (.const (.int .i64 2))⟩]
def q67R3 : List AOper := [⟨some 15, none, .faddr 0 (.slot 3)⟩,
  ⟨some 16, none, .load false 1 (.slot 15)⟩,
  ⟨some 17, none, .mov (.slot 1)⟩,
  ⟨some 18, none, .mov (.slot 2)⟩,
  ⟨some 19, none, .call .frz n_roster_Change [(.slot 16), (.slot 17), (.slot 18)]⟩,
  ⟨some 14, none, .mov (.slot 19)⟩,
  ⟨some 20, none, .extract 0 (.slot 14)⟩,
  ⟨some 21, none, .extract 1 (.slot 14)⟩,
  ⟨some 8, none, .mov (.slot 20)⟩,
  ⟨some 9, none, .mov (.slot 21)⟩]
def q67R4 : List AOper := [⟨some 22, none, .load true 33 (.slot 3)⟩,
  ⟨some 23, none, .mov (.slot 8)⟩,
  ⟨some 24, none, .mov (.slot 9)⟩,
  ⟨some 25, none, .call .frz n_session_with [(.slot 22), (.slot 23), (.slot 24)]⟩,
  ⟨some 26, none, .extract 0 (.slot 25)⟩,
  ⟨some 27, none, .extract 1 (.slot 25)⟩,
  ⟨none, none, .store true 33 (.slot 6) (.slot 26)⟩,
  ⟨some 7, none, .mov (.slot 27)⟩]
def c_session_Change : AFn := ⟨(.seq (.region q67R0 false [1, 2, 3, 6]) (.seq (.seq (.region q67R1 false [1, 2, 3, 6, 12]) (.cond (.slot 12) (.seq (.region q67R2 false [6, 7]) .ret) .skip)) (.seq (.region q67R3 false [3, 6, 8, 9]) (.seq (.region q67R4 false [6, 7]) .ret)))), [.cell 6 true 33, .slot 7]⟩
/- slices.IndexFunc[[]oriel/api.Deed,oriel/api.Deed] -/
def q108R0 : List AOper := [⟨some 4, none, .mov (.const (.int .i64 0))⟩]
def q108R1 : List AOper := [⟨some 6, none, .mov (.slot 0)⟩,
  ⟨some 7, none, .len false (.slot 6)⟩,
  ⟨some 8, none, .mov (.const (.int .i64 0))⟩]
def q108R2 : List AOper := [⟨some 9, none, .bin .lss (.slot 8) (.slot 7)⟩]
def q108R3 : List AOper := [⟨some 10, none, .mov (.slot 8)⟩,
  ⟨some 5, none, .mov (.slot 10)⟩]
def q108R4 : List AOper := [⟨some 11, none, .mov (.slot 1)⟩,
  ⟨some 12, none, .mov (.slot 0)⟩,
  ⟨some 13, none, .mov (.slot 5)⟩,
  ⟨some 14, none, .idx 4 (.slot 12) (.slot 13)⟩,
  ⟨some 15, none, .load true 4 (.slot 14)⟩,
  ⟨some 16, none, .callv (.slot 11) [(.slot 15)]⟩]
def q108R5 : List AOper := [⟨some 17, none, .mov (.slot 5)⟩,
  ⟨some 4, none, .mov (.slot 17)⟩]
def q108R6 : List AOper := [⟨some 18, none, .bin .add (.slot 8) (.const (.int .i64 1))⟩,
  ⟨some 8, none, .mov (.slot 18)⟩]
def c_slices_IndexFunc_Deed_L0 : ACode := (.seq (.region q108R2 false [0, 1, 7, 8, 9]) (.seq (.cond (.slot 9) .skip (.exit 0)) (.seq (.block 1 (.seq (.region q108R3 false [0, 1, 5, 7, 8]) (.seq (.region q108R4 false [0, 1, 5, 7, 8, 16]) (.cond (.slot 16) (.seq (.region q108R5 false [4]) .ret) .skip)))) (.region q108R6 false [0, 1, 7, 8]))))
def lp_slices_IndexFunc_Deed_0 : ACode := .loop [0, 1, 7, 8] c_slices_IndexFunc_Deed_L0
def q108R7 : List AOper := [⟨some 4, none, .mov (.const (.int .i64 (-1)))⟩]
def c_slices_IndexFunc_Deed : AFn := ⟨(.seq (.region q108R0 false [0, 1]) (.seq (.seq (.region q108R1 false [0, 1, 7, 8]) (.block 0 lp_slices_IndexFunc_Deed_0)) (.seq (.region q108R7 false [4]) .ret))), [.slot 4]⟩
/- slices.ContainsFunc[[]oriel/api.Deed,oriel/api.Deed] -/
def q96R0 : List AOper := [⟨some 4, none, .mov (.const (.bool false))⟩]
def q96R1 : List AOper := [⟨some 5, none, .mov (.slot 0)⟩,
  ⟨some 6, none, .mov (.slot 1)⟩,
  ⟨some 7, none, .call .inl n_slices_IndexFunc_Deed [(.slot 5), (.slot 6)]⟩,
  ⟨some 8, none, .bin .geq (.slot 7) (.const (.int .i64 0))⟩,
  ⟨some 4, none, .mov (.slot 8)⟩]
def c_slices_ContainsFunc_Deed : AFn := ⟨(.seq (.region q96R0 false [0, 1]) (.seq (.region q96R1 false [4]) .ret)), [.slot 4]⟩
/- oriel/input.may'1 -/
def q5R0 : List AOper := [⟨some 2, none, .mov (.const (.bool false))⟩]
def q5R1 : List AOper := [⟨some 3, none, .mov (.slot 0)⟩,
  ⟨some 4, none, .bin .geq (.slot 3) (.const (.int .i64 1))⟩,
  ⟨some 5, none, .mov (.slot 4)⟩,
  ⟨some 6, some (5, true), .mov (.slot 0)⟩,
  ⟨some 7, some (5, true), .bin .leq (.slot 6) (.const (.int .i64 1000))⟩,
  ⟨some 8, none, .pick (.slot 5) (.slot 7) (.const (.bool false))⟩,
  ⟨some 2, none, .mov (.slot 8)⟩]
def c_input_may_1 : AFn := ⟨(.seq (.region q5R0 false [0]) (.seq (.region q5R1 false [2]) .ret)), [.slot 2]⟩
/- oriel/input.may -/
def q4R0 : List AOper := [⟨some 1, none, .box 4 (.slot 0)⟩,
  ⟨some 2, none, .mov (.const (.bool false))⟩]
def q4R1 : List AOper := [⟨some 3, none, .mov (.func n_input_may_1)⟩]
def q4R2 : List AOper := [⟨some 5, none, .faddr 2 (.slot 1)⟩,
  ⟨some 6, none, .load false 1 (.slot 5)⟩,
  ⟨some 7, none, .bin .neq (.slot 6) (.const (.int .i64 0))⟩,
  ⟨some 8, none, .mov (.slot 7)⟩,
  ⟨some 9, some (8, false), .faddr 3 (.slot 1)⟩,
  ⟨some 10, some (8, false), .load false 1 (.slot 9)⟩,
  ⟨some 11, some (8, false), .bin .neq (.slot 10) (.const (.int .i64 0))⟩,
  ⟨some 12, none, .pick (.slot 8) (.const (.bool true)) (.slot 11)⟩,
  ⟨some 4, none, .mov (.slot 12)⟩]
def q4R3 : List AOper := [⟨some 13, none, .faddr 0 (.slot 1)⟩,
  ⟨some 14, none, .load false 1 (.slot 13)⟩]
def q4R4 : List AOper := [⟨some 16, none, .bin .eql (.slot 14) (.const (.int .i64 1))⟩,
  ⟨some 15, none, .mov (.slot 16)⟩]
def q4R5 : List AOper := [⟨some 17, none, .faddr 1 (.slot 1)⟩,
  ⟨some 18, none, .load false 1 (.slot 17)⟩,
  ⟨some 19, none, .len false (.slot 18)⟩,
  ⟨some 20, none, .bin .geq (.slot 19) (.const (.int .i64 1))⟩,
  ⟨some 21, none, .mov (.slot 20)⟩,
  ⟨some 22, some (21, true), .faddr 1 (.slot 1)⟩,
  ⟨some 23, some (21, true), .load false 1 (.slot 22)⟩,
  ⟨some 24, some (21, true), .len false (.slot 23)⟩,
  ⟨some 25, some (21, true), .bin .leq (.slot 24) (.const (.int .i64 16))⟩,
  ⟨some 26, none, .pick (.slot 21) (.slot 25) (.const (.bool false))⟩,
  ⟨some 27, none, .mov (.slot 26)⟩,
  ⟨some 28, some (27, true), .mov (.slot 4)⟩,
  ⟨some 29, some (27, true), .not (.slot 28)⟩,
  ⟨some 30, none, .pick (.slot 27) (.slot 29) (.const (.bool false))⟩,
  ⟨some 2, none, .mov (.slot 30)⟩]
def q4R6 : List AOper := [⟨some 32, none, .bin .eql (.slot 14) (.const (.int .i64 2))⟩,
  ⟨some 31, none, .mov (.slot 32)⟩]
def q4R7 : List AOper := [⟨some 33, none, .mov (.slot 3)⟩,
  ⟨some 34, none, .faddr 2 (.slot 1)⟩,
  ⟨some 35, none, .load false 1 (.slot 34)⟩,
  ⟨some 36, none, .callv (.slot 33) [(.slot 35)]⟩,
  ⟨some 37, none, .mov (.slot 36)⟩,
  ⟨some 38, some (37, true), .mov (.slot 3)⟩,
  ⟨some 39, some (37, true), .faddr 3 (.slot 1)⟩,
  ⟨some 40, some (37, true), .load false 1 (.slot 39)⟩,
  ⟨some 41, some (37, true), .callv (.slot 38) [(.slot 40)]⟩,
  ⟨some 42, none, .pick (.slot 37) (.slot 41) (.const (.bool false))⟩,
  ⟨some 43, none, .mov (.slot 42)⟩,
  ⟨some 44, some (43, true), .faddr 1 (.slot 1)⟩,
  ⟨some 45, some (43, true), .load false 1 (.slot 44)⟩,
  ⟨some 46, some (43, true), .len false (.slot 45)⟩,
  ⟨some 47, some (43, true), .bin .eql (.slot 46) (.const (.int .i64 0))⟩,
  ⟨some 48, none, .pick (.slot 43) (.slot 47) (.const (.bool false))⟩,
  ⟨some 2, none, .mov (.slot 48)⟩]
def q4R8 : List AOper := [⟨some 50, none, .bin .eql (.slot 14) (.const (.int .i64 3))⟩,
  ⟨some 49, none, .mov (.slot 50)⟩]
def q4R9 : List AOper := [⟨some 51, none, .bin .eql (.slot 14) (.const (.int .i64 4))⟩,
  ⟨some 49, none, .mov (.slot 51)⟩]
def q4R10 : List AOper := [⟨some 52, none, .faddr 1 (.slot 1)⟩,
  ⟨some 53, none, .load false 1 (.slot 52)⟩,
  ⟨some 54, none, .len false (.slot 53)⟩,
  ⟨some 55, none, .bin .eql (.slot 54) (.const (.int .i64 0))⟩,
  ⟨some 56, none, .mov (.slot 55)⟩,
  ⟨some 57, some (56, true), .mov (.slot 4)⟩,
  ⟨some 58, some (56, true), .not (.slot 57)⟩,
  ⟨some 59, none, .pick (.slot 56) (.slot 58) (.const (.bool false))⟩,
  ⟨some 2, none, .mov (.slot 59)⟩]
def q4R11 : List AOper := [⟨some 2, none, .mov (.const (.bool false))⟩]
def c_input_may : AFn := ⟨(.seq (.region q4R0 false [1]) (.seq (.region q4R1 false [1, 3]) (.seq (.region q4R2 false [1, 3, 4]) (.seq (.seq (.region q4R3 false [1, 3, 4, 14]) (.block 0 (.seq (.region q4R4 false [1, 3, 4, 14, 15]) (.cond (.slot 15) (.seq (.region q4R5 false [2]) .ret) (.seq (.region q4R6 false [1, 3, 4, 14, 31]) (.cond (.slot 31) (.seq (.region q4R7 false [2]) .ret) (.seq (.seq (.region q4R8 false [1, 4, 14, 49]) (.cond (.slot 49) .skip (.region q4R9 false [1, 4, 49]))) (.cond (.slot 49) (.seq (.region q4R10 false [2]) .ret) .skip)))))))) (.seq (.region q4R11 false [2]) .ret))))), [.slot 2]⟩
/- oriel/input.May'1 -/
def q3R0 : List AOper := [⟨some 1, none, .box 4 (.slot 0)⟩,
  ⟨some 2, none, .mov (.const (.bool false))⟩]
def q3R1 : List AOper := [⟨some 3, none, .load true 4 (.slot 1)⟩,
  ⟨some 4, none, .call .frz n_input_may [(.slot 3)]⟩,
  ⟨some 5, none, .not (.slot 4)⟩,
  ⟨some 2, none, .mov (.slot 5)⟩]
def c_input_May_1 : AFn := ⟨(.seq (.region q3R0 false [1]) (.seq (.region q3R1 false [2]) .ret)), [.slot 2]⟩
/- oriel/input.May -/
def q2R0 : List AOper := [⟨some 1, none, .box 2 (.slot 0)⟩,
  ⟨some 2, none, .mov (.const (.bool false))⟩]
def q2R1 : List AOper := [⟨some 3, none, .faddr 0 (.slot 1)⟩,
  ⟨some 4, none, .load false 1 (.slot 3)⟩,
  ⟨some 5, none, .bin .lss (.slot 4) (.const (.int .i64 0))⟩,
  ⟨some 6, none, .mov (.slot 5)⟩,
  ⟨some 7, some (6, false), .faddr 1 (.slot 1)⟩,
  ⟨some 8, some (6, false), .load false 1 (.slot 7)⟩,
  ⟨some 9, some (6, false), .len false (.slot 8)⟩,
  ⟨some 10, some (6, false), .bin .gtr (.slot 9) (.const (.int .i64 64))⟩,
  ⟨some 11, none, .pick (.slot 6) (.const (.bool true)) (.slot 10)⟩,
  ⟨some 12, none, .mov (.slot 11)⟩,
  ⟨some 13, some (12, false), .faddr 0 (.slot 1)⟩,
  ⟨some 14, some (12, false), .load false 1 (.slot 13)⟩,
  ⟨some 15, some (12, false), .faddr 1 (.slot 1)⟩,
  ⟨some 16, some (12, false), .load false 1 (.slot 15)⟩,
  ⟨some 17, some (12, false), .len false (.slot 16)⟩,
  ⟨some 18, some (12, false), .bin .sub (.const (.int .i64 1073741824)) (.slot 17)⟩,
  ⟨some 19, some (12, false), .bin .gtr (.slot 14) (.slot 18)⟩,
  ⟨some 20, none, .pick (.slot 12) (.const (.bool true)) (.slot 19)⟩]
def q2R2 : List AOper := [⟨some 2, none, .mov (.const (.bool false))⟩]
def q2R3 : List AOper := [⟨some 21, none, .faddr 1 (.slot 1)⟩,
  ⟨some 22, none, .load false 1 (.slot 21)⟩,
  ⟨some 23, none, .call .inl n_slices_ContainsFunc_Deed [(.slot 22), (.func n_input_May_1)]⟩,
  ⟨some 24, none, .not (.slot 23)⟩,
  ⟨some 2, none, .mov (.slot 24)⟩]
def c_input_May : AFn := ⟨(.seq (.region q2R0 false [1]) (.seq (.seq (.region q2R1 false [1, 20]) (.cond (.slot 20) (.seq (.region q2R2 false [2]) .ret) .skip)) (.seq (.region q2R3 false [2]) .ret))), [.slot 2]⟩
/- oriel/merge.Push -/
def q15R0 : List AOper := [⟨some 3, none, .box 3 (.slot 1)⟩,
  ⟨some 4, none, .mov (.const (.data false 3 [] true))⟩,
  ⟨some 5, none, .mov (.const (.bool false))⟩]
def q15R1 : List AOper := [⟨some 7, none, .mov (.slot 0)⟩,
  ⟨some 8, none, .call .frz n_merge_May [(.slot 7)]⟩,
  ⟨some 9, none, .not (.slot 8)⟩]
def q15R2 : List AOper := [⟨some 4, none, .mov (.const (.data false 3 [] true))⟩,
  ⟨some 5, none, .mov (.const (.bool false))⟩]
def q15R3 : List AOper := [⟨some 10, none, .mov (.slot 0)⟩,
  ⟨some 11, none, .call .adp n_merge_copied [(.slot 10)]⟩,
  ⟨some 6, none, .mov (.slot 11)⟩]
def q15R4 : List AOper := [⟨some 12, none, .load true 3 (.slot 3)⟩,
  ⟨some 13, none, .call .frz n_merge_piece [(.slot 12)]⟩,
  ⟨some 14, none, .not (.slot 13)⟩,
  ⟨some 15, none, .mov (.slot 14)⟩,
  ⟨some 16, some (15, false), .mov (.slot 0)⟩,
  ⟨some 17, some (15, false), .call .frz n_merge_Size [(.slot 16)]⟩,
  ⟨some 18, some (15, false), .faddr 2 (.slot 3)⟩,
  ⟨some 19, some (15, false), .load false 1 (.slot 18)⟩,
  ⟨some 20, some (15, false), .len false (.slot 19)⟩,
  ⟨some 21, some (15, false), .bin .add (.slot 17) (.slot 20)⟩,
  ⟨some 22, some (15, false), .bin .gtr (.slot 21) (.const (.int .i64 64))⟩,
  ⟨some 23, none, .pick (.slot 15) (.const (.bool true)) (.slot 22)⟩]
def q15R5 : List AOper := [⟨some 24, none, .mov (.slot 6)⟩,
  ⟨some 4, none, .mov (.slot 24)⟩,
  ⟨some 5, none, .mov (.const (.bool false))⟩]
def q15R6 : List AOper := [⟨some 25, none, .mov (.slot 6)⟩,
  ⟨some 26, none, .load true 3 (.slot 3)⟩,
  ⟨some 27, none, .mkslice 3 1 [.int .i64 0, .int .i64 0, .data false 1 [] true] [(0, (.slot 26))]⟩,
  ⟨some 28, none, .call .inl n_merge_copied [(.slot 27)]⟩,
  ⟨some 29, none, .append 3 40 (.slot 25) (.slot 28)⟩,
  ⟨some 4, none, .mov (.slot 29)⟩,
  ⟨some 5, none, .mov (.const (.bool true))⟩]
def c_merge_Push : AFn := ⟨(.seq (.region q15R0 false [0, 3]) (.seq (.seq (.region q15R1 false [0, 3, 9]) (.cond (.slot 9) (.seq (.region q15R2 false [4, 5]) .ret) .skip)) (.seq (.region q15R3 false [0, 3, 6]) (.seq (.seq (.region q15R4 true [3, 6, 23]) (.cond (.slot 23) (.seq (.region q15R5 false [4, 5]) .ret) .skip)) (.seq (.region q15R6 false [4, 5]) .ret))))), [.slot 4, .slot 5]⟩
/- oriel/session.does'1 -/
def q80R0 : List AOper := [⟨some 4, none, .box 33 (.slot 0)⟩,
  ⟨some 5, none, .alloc (.data false 2 [] true :: .int .i64 0 :: .data false 1 [] true :: .data false 3 [] true :: .int .i64 0 :: .int .i64 0 :: .int .i64 0 :: .int .i64 0 :: .int .i64 0 :: .int .i64 0 :: .int .i64 0 :: .int .i64 0 :: .int .i64 0 :: .int .i64 0 :: .int .i64 0 :: .int .i64 0 :: .int .i64 0 :: .int .i64 0 :: .int .i64 0 :: .int .i64 0 :: .int .i64 0 :: .int .i64 0 :: .int .i64 0 :: .int .i64 0 :: .int .i64 0 :: .int .i64 0 :: .int .i64 0 :: .int .i64 0 :: .int .i64 0 :: .int .i64 0 :: .int .i64 0 :: .int .i64 0 :: .int .i64 0 :: [])⟩]
def q80R1 : List AOper := [⟨some 6, none, .faddr 1 (.slot 4)⟩,
  ⟨some 7, none, .faddr 0 (.slot 6)⟩,
  ⟨some 8, none, .load false 1 (.slot 7)⟩,
  ⟨some 9, none, .load false 1 (.slot 1)⟩,
  ⟨some 10, none, .bin .eql (.slot 8) (.slot 9)⟩]
def q80R2 : List AOper := [⟨some 12, none, .faddr 3 (.slot 4)⟩,
  ⟨some 13, none, .load false 1 (.slot 12)⟩,
  ⟨some 14, none, .load false 1 (.slot 1)⟩,
  ⟨some 15, none, .load false 1 (.slot 2)⟩,
  ⟨some 16, none, .faddr 1 (.slot 3)⟩,
  ⟨some 17, none, .load false 1 (.slot 16)⟩,
  ⟨some 18, none, .build [.int .i64 0, .int .i64 0, .data false 1 [] true] [(0, 1, (.slot 14)), (1, 1, (.slot 15)), (2, 1, (.slot 17))]⟩,
  ⟨some 19, none, .call .frz n_merge_Push [(.slot 13), (.slot 18)]⟩,
  ⟨some 11, none, .mov (.slot 19)⟩,
  ⟨some 20, none, .extract 0 (.slot 11)⟩,
  ⟨some 21, none, .extract 1 (.slot 11)⟩,
  ⟨some 22, none, .faddr 3 (.slot 4)⟩,
  ⟨none, none, .store false 1 (.slot 22) (.slot 20)⟩]
def q80R3 : List AOper := [⟨some 23, none, .load true 33 (.slot 4)⟩,
  ⟨none, none, .store true 33 (.slot 5) (.slot 23)⟩]
def c_session_does_1 : AFn := ⟨(.seq (.region q80R0 false [1, 2, 3, 4, 5]) (.seq (.seq (.region q80R1 false [1, 2, 3, 4, 5, 10]) (.cond (.slot 10) (.region q80R2 false [4, 5]) .skip)) (.seq (.region q80R3 false [5]) .ret))), [.cell 5 true 33]⟩
/- oriel/size.Set -/
def q89R0 : List AOper := [⟨some 4, none, .box 18 (.slot 0)⟩,
  ⟨some 8, none, .alloc [.int .i64 0, .int .i64 0, .int .i64 0, .int .i64 0, .int .i64 0, .int .i64 0, .int .i64 0, .int .i64 0, .int .i64 0, .int .i64 0, .int .i64 0, .int .i64 0, .int .i64 0, .int .i64 0, .int .i64 0, .int .i64 0, .int .i64 0, .int .i64 0]⟩,
  ⟨some 9, none, .mov (.const (.int .i64 0))⟩]
def q89R1 : List AOper := [⟨some 10, none, .load true 18 (.slot 4)⟩,
  ⟨some 11, none, .call .frz n_size_May [(.slot 10)]⟩,
  ⟨some 12, none, .not (.slot 11)⟩,
  ⟨some 13, none, .mov (.slot 12)⟩,
  ⟨some 14, some (13, false), .mov (.slot 1)⟩,
  ⟨some 15, some (13, false), .call .frz n_size_member [(.slot 14)]⟩,
  ⟨some 16, some (13, false), .not (.slot 15)⟩,
  ⟨some 17, none, .pick (.slot 13) (.const (.bool true)) (.slot 16)⟩,
  ⟨some 18, none, .mov (.slot 17)⟩,
  ⟨some 19, some (18, false), .mov (.slot 2)⟩,
  ⟨some 20, some (18, false), .call .frz n_size_side [(.slot 19)]⟩,
  ⟨some 21, some (18, false), .not (.slot 20)⟩,
  ⟨some 22, none, .pick (.slot 18) (.const (.bool true)) (.slot 21)⟩,
  ⟨some 23, none, .mov (.slot 22)⟩,
  ⟨some 24, some (23, false), .mov (.slot 3)⟩,
  ⟨some 25, some (23, false), .call .frz n_size_side [(.slot 24)]⟩,
  ⟨some 26, some (23, false), .not (.slot 25)⟩,
  ⟨some 27, none, .pick (.slot 23) (.const (.bool true)) (.slot 26)⟩]
def q89R2 : List AOper := [⟨some 28, none, .build [.int .i64 0, .int .i64 0, .int .i64 0, .int .i64 0, .int .i64 0, .int .i64 0, .int .i64 0, .int .i64 0, .int .i64 0, .int .i64 0, .int .i64 0, .int .i64 0, .int .i64 0, .int .i64 0, .int .i64 0, .int .i64 0, .int .i64 0, .int .i64 0] []⟩,
  ⟨none, none, .store true 18 (.slot 8) (.slot 28)⟩,
  ⟨some 9, none, .mov (.const (.int .i64 2))⟩]
def q89R3 : List AOper := [⟨some 29, none, .mov (.slot 1)⟩,
  ⟨some 30, none, .mov (.slot 2)⟩,
  ⟨some 31, none, .mov (.slot 3)⟩,
  ⟨some 32, none, .build [.int .i64 0, .int .i64 0] [(0, 1, (.slot 30)), (1, 1, (.slot 31))]⟩,
  ⟨some 33, none, .idxarr 2 9 (.slot 4) (.slot 29)⟩,
  ⟨none, none, .store true 2 (.slot 33) (.slot 32)⟩]
def q89R4 : List AOper := [⟨some 34, none, .load true 18 (.slot 4)⟩,
  ⟨none, none, .store true 18 (.slot 8) (.slot 34)⟩,
  ⟨some 9, none, .mov (.const (.int .i64 0))⟩]
def c_size_Set : AFn := ⟨(.seq (.region q89R0 false [1, 2, 3, 4, 8]) (.seq (.seq (.region q89R1 false [1, 2, 3, 4, 8, 27]) (.cond (.slot 27) (.seq (.region q89R2 false [8, 9]) .ret) .skip)) (.seq (.region q89R3 false [4, 8]) (.seq (.region q89R4 false [8, 9]) .ret)))), [.cell 8 true 18, .slot 9]⟩
/- oriel/session.does'2 -/
def q81R0 : List AOper := [⟨some 3, none, .box 33 (.slot 0)⟩,
  ⟨some 4, none, .alloc (.data false 2 [] true :: .int .i64 0 :: .data false 1 [] true :: .data false 3 [] true :: .int .i64 0 :: .int .i64 0 :: .int .i64 0 :: .int .i64 0 :: .int .i64 0 :: .int .i64 0 :: .int .i64 0 :: .int .i64 0 :: .int .i64 0 :: .int .i64 0 :: .int .i64 0 :: .int .i64 0 :: .int .i64 0 :: .int .i64 0 :: .int .i64 0 :: .int .i64 0 :: .int .i64 0 :: .int .i64 0 :: .int .i64 0 :: .int .i64 0 :: .int .i64 0 :: .int .i64 0 :: .int .i64 0 :: .int .i64 0 :: .int .i64 0 :: .int .i64 0 :: .int .i64 0 :: .int .i64 0 :: .int .i64 0 :: [])⟩]
def q81R1 : List AOper := [⟨some 6, none, .faddr 4 (.slot 3)⟩,
  ⟨some 7, none, .load true 18 (.slot 6)⟩,
  ⟨some 8, none, .load false 1 (.slot 1)⟩,
  ⟨some 9, none, .faddr 2 (.slot 2)⟩,
  ⟨some 10, none, .load false 1 (.slot 9)⟩,
  ⟨some 11, none, .faddr 3 (.slot 2)⟩,
  ⟨some 12, none, .load false 1 (.slot 11)⟩,
  ⟨some 13, none, .call .frz n_size_Set [(.slot 7), (.slot 8), (.slot 10), (.slot 12)]⟩,
  ⟨some 5, none, .mov (.slot 13)⟩,
  ⟨some 14, none, .extract 0 (.slot 5)⟩,
  ⟨some 15, none, .extract 1 (.slot 5)⟩,
  ⟨some 16, none, .faddr 4 (.slot 3)⟩,
  ⟨none, none, .store true 18 (.slot 16) (.slot 14)⟩]
def q81R2 : List AOper := [⟨some 17, none, .load true 33 (.slot 3)⟩,
  ⟨some 18, none, .call .frz n_session_settled [(.slot 17)]⟩,
  ⟨none, none, .store true 33 (.slot 4) (.slot 18)⟩]
def c_session_does_2 : AFn := ⟨(.seq (.region q81R0 false [1, 2, 3, 4]) (.seq (.region q81R1 false [3, 4]) (.seq (.region q81R2 false [4]) .ret))), [.cell 4 true 33]⟩
/- oriel/token.Place -/
def q124R0 : List AOper := [⟨some 2, none, .box 2 (.slot 0)⟩,
  ⟨some 4, none, .mov (.const (.int .i64 0))⟩]
def q124R1 : List AOper := [⟨some 7, none, .load true 2 (.slot 2)⟩,
  ⟨some 8, none, .call .frz n_token_May [(.slot 7)]⟩,
  ⟨some 9, none, .not (.slot 8)⟩,
  ⟨some 10, none, .mov (.slot 9)⟩,
  ⟨some 11, some (10, false), .mov (.slot 1)⟩,
  ⟨some 12, some (10, false), .call .frz n_token_number [(.slot 11)]⟩,
  ⟨some 13, some (10, false), .not (.slot 12)⟩,
  ⟨some 14, none, .pick (.slot 10) (.const (.bool true)) (.slot 13)⟩,
  ⟨some 6, none, .mov (.slot 14)⟩]
def q124R2 : List AOper := [⟨some 4, none, .mov (.const (.int .i64 (-1)))⟩]
def q124R3 : List AOper := [⟨some 16, none, .faddr 0 (.slot 2)⟩,
  ⟨some 17, none, .load false 1 (.slot 16)⟩,
  ⟨some 18, none, .mov (.slot 1)⟩,
  ⟨some 19, none, .bin .eql (.slot 17) (.slot 18)⟩,
  ⟨some 15, none, .mov (.slot 19)⟩]
def q124R4 : List AOper := [⟨some 4, none, .mov (.const (.int .i64 0))⟩]
def q124R5 : List AOper := [⟨some 20, none, .faddr 1 (.slot 2)⟩,
  ⟨some 21, none, .load false 1 (.slot 20)⟩,
  ⟨some 22, none, .mov (.slot 1)⟩,
  ⟨some 23, none, .call .frz n_slices_Index_int [(.slot 21), (.slot 22)]⟩,
  ⟨some 5, none, .mov (.slot 23)⟩]
def q124R6 : List AOper := [⟨some 24, none, .mov (.slot 5)⟩,
  ⟨some 25, none, .bin .geq (.slot 24) (.const (.int .i64 0))⟩]
def q124R7 : List AOper := [⟨some 26, none, .mov (.slot 5)⟩,
  ⟨some 27, none, .bin .add (.slot 26) (.const (.int .i64 1))⟩,
  ⟨some 4, none, .mov (.slot 27)⟩]
def q124R8 : List AOper := [⟨some 4, none, .mov (.const (.int .i64 (-1)))⟩]
def c_token_Place : AFn := ⟨(.seq (.region q124R0 false [1, 2]) (.seq (.block 0 (.seq (.region q124R1 false [1, 2, 6]) (.cond (.slot 6) (.seq (.region q124R2 false [4]) .ret) (.seq (.region q124R3 false [1, 2, 15]) (.cond (.slot 15) (.seq (.region q124R4 false [4]) .ret) .skip))))) (.seq (.seq (.region q124R5 false [5]) (.seq (.region q124R6 false [5, 25]) (.cond (.slot 25) (.seq (.region q124R7 false [4]) .ret) .skip))) (.seq (.region q124R8 false [4]) .ret)))), [.slot 4]⟩
/- oriel/token.Ask'1 -/
def q117R0 : List AOper := [⟨some 6, none, .load false 1 (.slot 2)⟩,
  ⟨some 7, none, .bin .lss (.slot 6) (.const (.int .i64 0))⟩]
def q117R1 : List AOper := [⟨some 8, none, .mov (.slot 0)⟩,
  ⟨some 9, none, .mov (.slot 0)⟩,
  ⟨some 10, none, .nilchk (.slot 9)⟩,
  ⟨some 11, none, .faddr 0 (.slot 10)⟩,
  ⟨some 12, none, .faddr 1 (.slot 11)⟩,
  ⟨some 13, none, .load false 1 (.slot 12)⟩,
  ⟨some 14, none, .load false 1 (.slot 3)⟩,
  ⟨some 15, none, .mkslice 1 1 [.int .i64 0] [(0, (.slot 14))]⟩,
  ⟨some 16, none, .append 1 8 (.slot 13) (.slot 15)⟩,
  ⟨some 17, none, .nilchk (.slot 8)⟩,
  ⟨some 18, none, .faddr 0 (.slot 17)⟩,
  ⟨some 19, none, .faddr 1 (.slot 18)⟩,
  ⟨none, none, .store false 1 (.slot 19) (.slot 16)⟩]
def q117R2 : List AOper := [⟨some 20, none, .mov (.slot 0)⟩,
  ⟨some 21, none, .nilchk (.slot 20)⟩,
  ⟨some 22, none, .faddr 0 (.slot 21)⟩,
  ⟨some 23, none, .faddr 0 (.slot 22)⟩,
  ⟨some 24, none, .load false 1 (.slot 23)⟩,
  ⟨some 25, none, .bin .eql (.slot 24) (.const (.int .i64 0))⟩]
def q117R3 : List AOper := [⟨some 26, none, .mov (.slot 1)⟩,
  ⟨some 27, none, .callv (.slot 26) []⟩]
def c_token_Ask_1 : AFn := ⟨(.seq (.seq (.region q117R0 false [0, 1, 3, 7]) (.cond (.slot 7) (.region q117R1 true [0, 1]) .skip)) (.seq (.region q117R2 false [1, 25]) (.cond (.slot 25) (.region q117R3 false []) .skip))), []⟩
/- oriel/token.Ask -/
def q116R0 : List AOper := [⟨some 2, none, .box 2 (.slot 0)⟩,
  ⟨some 3, none, .box 1 (.slot 1)⟩,
  ⟨some 4, none, .alloc [.int .i64 0, .data false 1 [] true]⟩,
  ⟨some 5, none, .mov (.const (.int .i64 0))⟩]
def q116R1 : List AOper := [⟨some 7, none, .load true 2 (.slot 2)⟩,
  ⟨some 8, none, .call .frz n_token_May [(.slot 7)]⟩,
  ⟨some 9, none, .not (.slot 8)⟩,
  ⟨some 10, none, .mov (.slot 9)⟩,
  ⟨some 11, some (10, false), .load false 1 (.slot 3)⟩,
  ⟨some 12, some (10, false), .call .frz n_token_number [(.slot 11)]⟩,
  ⟨some 13, some (10, false), .not (.slot 12)⟩,
  ⟨some 14, none, .pick (.slot 10) (.const (.bool true)) (.slot 13)⟩]
def q116R2 : List AOper := [⟨some 15, none, .build [.int .i64 0, .data false 1 [] true] []⟩,
  ⟨none, none, .store true 2 (.slot 4) (.slot 15)⟩,
  ⟨some 5, none, .mov (.const (.int .i64 2))⟩]
def q116R3 : List AOper := [⟨some 16, none, .load true 2 (.slot 2)⟩,
  ⟨some 17, none, .load false 1 (.slot 3)⟩,
  ⟨some 18, none, .call .frz n_token_Place [(.slot 16), (.slot 17)]⟩,
  ⟨some 6, none, .alloc [.int .i64 0]⟩,
  ⟨none, none, .store false 1 (.slot 6) (.slot 18)⟩]
def q116R4 : List AOper := [⟨some 19, none, .load true 2 (.slot 2)⟩,
  ⟨some 20, none, .mkfn (.func n_token_Ask_1) [] [(.slot 6), (.slot 3)]⟩,
  ⟨some 21, none, .call .inl n_token_change [(.slot 19), (.slot 20)]⟩,
  ⟨none, none, .store true 2 (.slot 4) (.slot 21)⟩,
  ⟨some 5, none, .mov (.const (.int .i64 0))⟩]
def c_token_Ask : AFn := ⟨(.seq (.region q116R0 false [2, 3, 4]) (.seq (.seq (.region q116R1 false [2, 3, 4, 14]) (.cond (.slot 14) (.seq (.region q116R2 false [4, 5]) .ret) .skip)) (.seq (.region q116R3 false [2, 3, 4, 6]) (.seq (.region q116R4 false [4, 5]) .ret)))), [.cell 4 true 2, .slot 5]⟩
/- oriel/session.does'3 -/
def q82R0 : List AOper := [⟨some 2, none, .box 33 (.slot 0)⟩,
  ⟨some 3, none, .alloc (.data false 2 [] true :: .int .i64 0 :: .data false 1 [] true :: .data false 3 [] true :: .int .i64 0 :: .int .i64 0 :: .int .i64 0 :: .int .i64 0 :: .int .i64 0 :: .int .i64 0 :: .int .i64 0 :: .int .i64 0 :: .int .i64 0 :: .int .i64 0 :: .int .i64 0 :: .int .i64 0 :: .int .i64 0 :: .int .i64 0 :: .int .i64 0 :: .int .i64 0 :: .int .i64 0 :: .int .i64 0 :: .int .i64 0 :: .int .i64 0 :: .int .i64 0 :: .int .i64 0 :: .int .i64 0 :: .int .i64 0 :: .int .i64 0 :: .int .i64 0 :: .int .i64 0 :: .int .i64 0 :: .int .i64 0 :: [])⟩]
def q82R1 : List AOper := [⟨some 4, none, .load true 33 (.slot 2)⟩,
  ⟨some 5, none, .load false 1 (.slot 1)⟩,
  ⟨some 6, none, .call .frz n_session_writes [(.slot 4), (.slot 5)]⟩]
def q82R2 : List AOper := [⟨some 8, none, .faddr 1 (.slot 2)⟩,
  ⟨some 9, none, .load true 2 (.slot 8)⟩,
  ⟨some 10, none, .load false 1 (.slot 1)⟩,
  ⟨some 11, none, .call .frz n_token_Ask [(.slot 9), (.slot 10)]⟩,
  ⟨some 7, none, .mov (.slot 11)⟩,
  ⟨some 12, none, .extract 0 (.slot 7)⟩,
  ⟨some 13, none, .extract 1 (.slot 7)⟩,
  ⟨some 14, none, .faddr 1 (.slot 2)⟩,
  ⟨none, none, .store true 2 (.slot 14) (.slot 12)⟩]
def q82R3 : List AOper := [⟨some 15, none, .load true 33 (.slot 2)⟩,
  ⟨none, none, .store true 33 (.slot 3) (.slot 15)⟩]
def c_session_does_3 : AFn := ⟨(.seq (.region q82R0 false [1, 2, 3]) (.seq (.seq (.region q82R1 false [1, 2, 3, 6]) (.cond (.slot 6) (.region q82R2 false [2, 3]) .skip)) (.seq (.region q82R3 false [3]) .ret))), [.cell 3 true 33]⟩
/- slices.Delete[[]int,int] -/
def q104R0 : List AOper := [⟨some 6, none, .mov (.const (.data false 1 [] true))⟩]
def q104R1 : List AOper := [⟨some 8, none, .mov (.slot 0)⟩,
  ⟨some 9, none, .mov (.slot 1)⟩,
  ⟨some 10, none, .mov (.slot 2)⟩,
  ⟨some 11, none, .mov (.slot 0)⟩,
  ⟨some 12, none, .len false (.slot 11)⟩,
  ⟨some 13, none, .sl 1 (.slot 8) (some (.slot 9)) (some (.slot 10)) (some (.slot 12))⟩]
def q104R2 : List AOper := [⟨some 14, none, .mov (.slot 1)⟩,
  ⟨some 15, none, .mov (.slot 2)⟩,
  ⟨some 16, none, .bin .eql (.slot 14) (.slot 15)⟩]
def q104R3 : List AOper := [⟨some 17, none, .mov (.slot 0)⟩,
  ⟨some 6, none, .mov (.slot 17)⟩]
def q104R4 : List AOper := [⟨some 18, none, .mov (.slot 0)⟩,
  ⟨some 19, none, .len false (.slot 18)⟩,
  ⟨some 7, none, .mov (.slot 19)⟩]
def q104R5 : List AOper := [⟨some 20, none, .mov (.slot 0)⟩,
  ⟨some 21, none, .mov (.slot 1)⟩,
  ⟨some 22, none, .sl 1 (.slot 20) none (some (.slot 21)) none⟩,
  ⟨some 23, none, .mov (.slot 0)⟩,
  ⟨some 24, none, .mov (.slot 2)⟩,
  ⟨some 25, none, .sl 1 (.slot 23) (some (.slot 24)) none none⟩,
  ⟨some 26, none, .append 1 8 (.slot 22) (.slot 25)⟩,
  ⟨some 0, none, .mov (.slot 26)⟩]
def q104R6 : List AOper := [⟨some 27, none, .mov (.slot 0)⟩,
  ⟨some 28, none, .mov (.slot 0)⟩,
  ⟨some 29, none, .len false (.slot 28)⟩,
  ⟨some 30, none, .mov (.slot 7)⟩,
  ⟨some 31, none, .sl 1 (.slot 27) (some (.slot 29)) (some (.slot 30)) none⟩,
  ⟨none, none, .clear [.int .i64 0] (.slot 31)⟩]
def q104R7 : List AOper := [⟨some 32, none, .mov (.slot 0)⟩,
  ⟨some 6, none, .mov (.slot 32)⟩]
def c_slices_Delete_int : AFn := ⟨(.seq (.region q104R0 false [0, 1, 2]) (.seq (.region q104R1 false [0, 1, 2]) (.seq (.seq (.region q104R2 false [0, 1, 2, 16]) (.cond (.slot 16) (.seq (.region q104R3 false [6]) .ret) .skip)) (.seq (.region q104R4 false [0, 1, 2, 7]) (.seq (.region q104R5 true [0, 7]) (.seq (.region q104R6 false [0]) (.seq (.region q104R7 false [6]) .ret))))))), [.slot 6]⟩
/- oriel/token.Free'1 -/
def q119R0 : List AOper := [⟨some 6, none, .load false 1 (.slot 2)⟩,
  ⟨some 7, none, .bin .eql (.slot 6) (.const (.int .i64 0))⟩,
  ⟨some 5, none, .mov (.slot 7)⟩]
def q119R1 : List AOper := [⟨some 8, none, .mov (.slot 1)⟩,
  ⟨some 9, none, .callv (.slot 8) []⟩]
def q119R2 : List AOper := [⟨some 11, none, .load false 1 (.slot 2)⟩,
  ⟨some 12, none, .bin .gtr (.slot 11) (.const (.int .i64 0))⟩,
  ⟨some 10, none, .mov (.slot 12)⟩]
def q119R3 : List AOper := [⟨some 13, none, .mov (.slot 0)⟩,
  ⟨some 14, none, .mov (.slot 0)⟩,
  ⟨some 15, none, .nilchk (.slot 14)⟩,
  ⟨some 16, none, .faddr 0 (.slot 15)⟩,
  ⟨some 17, none, .faddr 1 (.slot 16)⟩,
  ⟨some 18, none, .load false 1 (.slot 17)⟩,
  ⟨some 19, none, .load false 1 (.slot 2)⟩,
  ⟨some 20, none, .bin .sub (.slot 19) (.const (.int .i64 1))⟩,
  ⟨some 21, none, .load false 1 (.slot 2)⟩,
  ⟨some 22, none, .call .inl n_slices_Delete_int [(.slot 18), (.slot 20), (.slot 21)]⟩,
  ⟨some 23, none, .nilchk (.slot 13)⟩,
  ⟨some 24, none, .faddr 0 (.slot 23)⟩,
  ⟨some 25, none, .faddr 1 (.slot 24)⟩,
  ⟨none, none, .store false 1 (.slot 25) (.slot 22)⟩]
def c_token_Free_1 : AFn := ⟨(.block 0 (.seq (.region q119R0 false [0, 1, 2, 5]) (.cond (.slot 5) (.region q119R1 false []) (.seq (.region q119R2 false [0, 2, 10]) (.cond (.slot 10) (.region q119R3 true []) .skip))))), []⟩
/- oriel/token.Free -/
def q118R0 : List AOper := [⟨some 2, none, .box 2 (.slot 0)⟩,
  ⟨some 4, none, .alloc [.int .i64 0, .data false 1 [] true]⟩,
  ⟨some 5, none, .mov (.const (.int .i64 0))⟩]
def q118R1 : List AOper := [⟨some 7, none, .load true 2 (.slot 2)⟩,
  ⟨some 8, none, .call .frz n_token_May [(.slot 7)]⟩,
  ⟨some 9, none, .not (.slot 8)⟩,
  ⟨some 10, none, .mov (.slot 9)⟩,
  ⟨some 11, some (10, false), .mov (.slot 1)⟩,
  ⟨some 12, some (10, false), .call .frz n_token_number [(.slot 11)]⟩,
  ⟨some 13, some (10, false), .not (.slot 12)⟩,
  ⟨some 14, none, .pick (.slot 10) (.const (.bool true)) (.slot 13)⟩]
def q118R2 : List AOper := [⟨some 15, none, .build [.int .i64 0, .data false 1 [] true] []⟩,
  ⟨none, none, .store true 2 (.slot 4) (.slot 15)⟩,
  ⟨some 5, none, .mov (.const (.int .i64 2))⟩]
def q118R3 : List AOper := [⟨some 16, none, .load true 2 (.slot 2)⟩,
  ⟨some 17, none, .mov (.slot 1)⟩,
  ⟨some 18, none, .call .frz n_token_Place [(.slot 16), (.slot 17)]⟩,
  ⟨some 6, none, .alloc [.int .i64 0]⟩,
  ⟨none, none, .store false 1 (.slot 6) (.slot 18)⟩]
def q118R4 : List AOper := [⟨some 19, none, .load true 2 (.slot 2)⟩,
  ⟨some 20, none, .mkfn (.func n_token_Free_1) [] [(.slot 6)]⟩,
  ⟨some 21, none, .call .inl n_token_change [(.slot 19), (.slot 20)]⟩,
  ⟨none, none, .store true 2 (.slot 4) (.slot 21)⟩,
  ⟨some 5, none, .mov (.const (.int .i64 0))⟩]
def c_token_Free : AFn := ⟨(.seq (.region q118R0 false [1, 2, 4]) (.seq (.seq (.region q118R1 false [1, 2, 4, 14]) (.cond (.slot 14) (.seq (.region q118R2 false [4, 5]) .ret) .skip)) (.seq (.region q118R3 false [2, 4, 6]) (.seq (.region q118R4 false [4, 5]) .ret)))), [.cell 4 true 2, .slot 5]⟩
/- oriel/session.does'4 -/
def q83R0 : List AOper := [⟨some 2, none, .box 33 (.slot 0)⟩,
  ⟨some 3, none, .alloc (.data false 2 [] true :: .int .i64 0 :: .data false 1 [] true :: .data false 3 [] true :: .int .i64 0 :: .int .i64 0 :: .int .i64 0 :: .int .i64 0 :: .int .i64 0 :: .int .i64 0 :: .int .i64 0 :: .int .i64 0 :: .int .i64 0 :: .int .i64 0 :: .int .i64 0 :: .int .i64 0 :: .int .i64 0 :: .int .i64 0 :: .int .i64 0 :: .int .i64 0 :: .int .i64 0 :: .int .i64 0 :: .int .i64 0 :: .int .i64 0 :: .int .i64 0 :: .int .i64 0 :: .int .i64 0 :: .int .i64 0 :: .int .i64 0 :: .int .i64 0 :: .int .i64 0 :: .int .i64 0 :: .int .i64 0 :: [])⟩]
def q83R1 : List AOper := [⟨some 5, none, .faddr 1 (.slot 2)⟩,
  ⟨some 6, none, .load true 2 (.slot 5)⟩,
  ⟨some 7, none, .load false 1 (.slot 1)⟩,
  ⟨some 8, none, .call .frz n_token_Free [(.slot 6), (.slot 7)]⟩,
  ⟨some 4, none, .mov (.slot 8)⟩,
  ⟨some 9, none, .extract 0 (.slot 4)⟩,
  ⟨some 10, none, .extract 1 (.slot 4)⟩,
  ⟨some 11, none, .faddr 1 (.slot 2)⟩,
  ⟨none, none, .store true 2 (.slot 11) (.slot 9)⟩]
def q83R2 : List AOper := [⟨some 12, none, .load true 33 (.slot 2)⟩,
  ⟨none, none, .store true 33 (.slot 3) (.slot 12)⟩]
def c_session_does_4 : AFn := ⟨(.seq (.region q83R0 false [1, 2, 3]) (.seq (.region q83R1 false [2, 3]) (.seq (.region q83R2 false [3]) .ret))), [.cell 3 true 33]⟩
/- oriel/session.does -/
def q79R0 : List AOper := [⟨some 3, none, .box 1 (.slot 0)⟩,
  ⟨some 4, none, .box 1 (.slot 1)⟩,
  ⟨some 5, none, .box 4 (.slot 2)⟩,
  ⟨some 6, none, .mov (.const .nilfn)⟩]
def q79R1 : List AOper := [⟨some 7, none, .load true 4 (.slot 5)⟩,
  ⟨some 8, none, .mkslice 4 1 [.int .i64 0, .data false 1 [] true, .int .i64 0, .int .i64 0] [(0, (.slot 7))]⟩,
  ⟨some 9, none, .build [.int .i64 0, .data false 4 [] true] [(1, 1, (.slot 8))]⟩,
  ⟨some 10, none, .call .inl n_input_May [(.slot 9)]⟩,
  ⟨some 11, none, .not (.slot 10)⟩]
def q79R2 : List AOper := [⟨some 6, none, .mov (.const .nilfn)⟩]
def q79R3 : List AOper := [⟨some 12, none, .faddr 0 (.slot 5)⟩,
  ⟨some 13, none, .load false 1 (.slot 12)⟩]
def q79R4 : List AOper := [⟨some 15, none, .bin .eql (.slot 13) (.const (.int .i64 1))⟩,
  ⟨some 14, none, .mov (.slot 15)⟩]
def q79R5 : List AOper := [⟨some 16, none, .mkfn (.func n_session_does_1) [] [(.slot 3), (.slot 4), (.slot 5)]⟩,
  ⟨some 6, none, .mov (.slot 16)⟩]
def q79R6 : List AOper := [⟨some 18, none, .bin .eql (.slot 13) (.const (.int .i64 2))⟩,
  ⟨some 17, none, .mov (.slot 18)⟩]
def q79R7 : List AOper := [⟨some 19, none, .mkfn (.func n_session_does_2) [] [(.slot 3), (.slot 5)]⟩,
  ⟨some 6, none, .mov (.slot 19)⟩]
def q79R8 : List AOper := [⟨some 21, none, .bin .eql (.slot 13) (.const (.int .i64 3))⟩,
  ⟨some 20, none, .mov (.slot 21)⟩]
def q79R9 : List AOper := [⟨some 22, none, .mkfn (.func n_session_does_3) [] [(.slot 3)]⟩,
  ⟨some 6, none, .mov (.slot 22)⟩]
def q79R10 : List AOper := [⟨some 23, none, .mkfn (.func n_session_does_4) [] [(.slot 3)]⟩,
  ⟨some 6, none, .mov (.slot 23)⟩]
def c_session_does : AFn := ⟨(.seq (.region q79R0 false [3, 4, 5]) (.seq (.seq (.region q79R1 false [3, 4, 5, 11]) (.cond (.slot 11) (.seq (.region q79R2 false [6]) .ret) .skip)) (.seq (.seq (.region q79R3 false [3, 4, 5, 13]) (.block 0 (.seq (.region q79R4 false [3, 4, 5, 13, 14]) (.cond (.slot 14) (.seq (.region q79R5 false [6]) .ret) (.seq (.region q79R6 false [3, 5, 13, 17]) (.cond (.slot 17) (.seq (.region q79R7 false [6]) .ret) (.seq (.region q79R8 false [3, 20]) (.cond (.slot 20) (.seq (.region q79R9 false [6]) .ret) .skip)))))))) (.seq (.region q79R10 false [6]) .ret)))), [.slot 6]⟩
/- oriel/session.Take -/
def q76R0 : List AOper := [⟨some 4, none, .box 33 (.slot 0)⟩,
  ⟨some 7, none, .box 4 (.slot 3)⟩,
  ⟨some 8, none, .alloc (.data false 2 [] true :: .int .i64 0 :: .data false 1 [] true :: .data false 3 [] true :: .int .i64 0 :: .int .i64 0 :: .int .i64 0 :: .int .i64 0 :: .int .i64 0 :: .int .i64 0 :: .int .i64 0 :: .int .i64 0 :: .int .i64 0 :: .int .i64 0 :: .int .i64 0 :: .int .i64 0 :: .int .i64 0 :: .int .i64 0 :: .int .i64 0 :: .int .i64 0 :: .int .i64 0 :: .int .i64 0 :: .int .i64 0 :: .int .i64 0 :: .int .i64 0 :: .int .i64 0 :: .int .i64 0 :: .int .i64 0 :: .int .i64 0 :: .int .i64 0 :: .int .i64 0 :: .int .i64 0 :: .int .i64 0 :: [])⟩,
  ⟨some 9, none, .mov (.const (.int .i64 0))⟩]
def q76R1 : List AOper := [⟨some 13, none, .load true 33 (.slot 4)⟩,
  ⟨some 14, none, .call .frz n_session_May [(.slot 13)]⟩,
  ⟨some 15, none, .not (.slot 14)⟩]
def q76R2 : List AOper := [⟨some 16, none, .build (.data false 2 [] true :: .int .i64 0 :: .data false 1 [] true :: .data false 3 [] true :: .int .i64 0 :: .int .i64 0 :: .int .i64 0 :: .int .i64 0 :: .int .i64 0 :: .int .i64 0 :: .int .i64 0 :: .int .i64 0 :: .int .i64 0 :: .int .i64 0 :: .int .i64 0 :: .int .i64 0 :: .int .i64 0 :: .int .i64 0 :: .int .i64 0 :: .int .i64 0 :: .int .i64 0 :: .int .i64 0 :: .int .i64 0 :: .int .i64 0 :: .int .i64 0 :: .int .i64 0 :: .int .i64 0 :: .int .i64 0 :: .int .i64 0 :: .int .i64 0 :: .int .i64 0 :: .int .i64 0 :: .int .i64 0 :: []) []⟩,
  ⟨none, none, .store true 33 (.slot 8) (.slot 16)⟩,
  ⟨some 9, none, .mov (.const (.int .i64 2))⟩]
def q76R3 : List AOper := [⟨some 18, none, .faddr 0 (.slot 4)⟩,
  ⟨some 19, none, .load false 1 (.slot 18)⟩,
  ⟨some 20, none, .mov (.slot 1)⟩,
  ⟨some 21, none, .call .frz n_roster_Find [(.slot 19), (.slot 20)]⟩,
  ⟨some 17, none, .mov (.slot 21)⟩,
  ⟨some 22, none, .extract 0 (.slot 17)⟩,
  ⟨some 23, none, .extract 1 (.slot 17)⟩,
  ⟨some 10, none, .alloc [.int .i64 0, .int .i64 0]⟩,
  ⟨none, none, .store true 2 (.slot 10) (.slot 22)⟩,
  ⟨some 11, none, .mov (.slot 23)⟩]
def q76R4 : List AOper := [⟨some 24, none, .mov (.slot 11)⟩,
  ⟨some 25, none, .not (.slot 24)⟩]
def q76R5 : List AOper := [⟨some 26, none, .build (.data false 2 [] true :: .int .i64 0 :: .data false 1 [] true :: .data false 3 [] true :: .int .i64 0 :: .int .i64 0 :: .int .i64 0 :: .int .i64 0 :: .int .i64 0 :: .int .i64 0 :: .int .i64 0 :: .int .i64 0 :: .int .i64 0 :: .int .i64 0 :: .int .i64 0 :: .int .i64 0 :: .int .i64 0 :: .int .i64 0 :: .int .i64 0 :: .int .i64 0 :: .int .i64 0 :: .int .i64 0 :: .int .i64 0 :: .int .i64 0 :: .int .i64 0 :: .int .i64 0 :: .int .i64 0 :: .int .i64 0 :: .int .i64 0 :: .int .i64 0 :: .int .i64 0 :: .int .i64 0 :: .int .i64 0 :: []) []⟩,
  ⟨none, none, .store true 33 (.slot 8) (.slot 26)⟩,
  ⟨some 9, none, .mov (.const (.int .i64 6))⟩]
def q76R6 : List AOper := [⟨some 27, none, .mov (.slot 1)⟩,
  ⟨some 28, none, .faddr 24 (.slot 4)⟩,
  ⟨some 29, none, .idxarr 1 9 (.slot 28) (.slot 27)⟩,
  ⟨some 30, none, .load false 1 (.slot 29)⟩,
  ⟨some 31, none, .bin .geq (.slot 30) (.const (.int .i64 1073741824))⟩,
  ⟨some 32, none, .mov (.slot 31)⟩,
  ⟨some 33, some (32, false), .mov (.slot 2)⟩,
  ⟨some 34, some (32, false), .mov (.slot 1)⟩,
  ⟨some 35, some (32, false), .faddr 24 (.slot 4)⟩,
  ⟨some 36, some (32, false), .idxarr 1 9 (.slot 35) (.slot 34)⟩,
  ⟨some 37, some (32, false), .load false 1 (.slot 36)⟩,
  ⟨some 38, some (32, false), .bin .add (.slot 37) (.const (.int .i64 1))⟩,
  ⟨some 39, some (32, false), .bin .neq (.slot 33) (.slot 38)⟩,
  ⟨some 40, none, .pick (.slot 32) (.const (.bool true)) (.slot 39)⟩]
def q76R7 : List AOper := [⟨some 41, none, .build (.data false 2 [] true :: .int .i64 0 :: .data false 1 [] true :: .data false 3 [] true :: .int .i64 0 :: .int .i64 0 :: .int .i64 0 :: .int .i64 0 :: .int .i64 0 :: .int .i64 0 :: .int .i64 0 :: .int .i64 0 :: .int .i64 0 :: .int .i64 0 :: .int .i64 0 :: .int .i64 0 :: .int .i64 0 :: .int .i64 0 :: .int .i64 0 :: .int .i64 0 :: .int .i64 0 :: .int .i64 0 :: .int .i64 0 :: .int .i64 0 :: .int .i64 0 :: .int .i64 0 :: .int .i64 0 :: .int .i64 0 :: .int .i64 0 :: .int .i64 0 :: .int .i64 0 :: .int .i64 0 :: .int .i64 0 :: []) []⟩,
  ⟨none, none, .store true 33 (.slot 8) (.slot 41)⟩,
  ⟨some 9, none, .mov (.const (.int .i64 300))⟩]
def q76R8 : List AOper := [⟨some 42, none, .mov (.slot 1)⟩,
  ⟨some 43, none, .mov (.slot 2)⟩,
  ⟨some 44, none, .load true 4 (.slot 7)⟩,
  ⟨some 45, none, .call .inl n_session_does [(.slot 42), (.slot 43), (.slot 44)]⟩,
  ⟨some 12, none, .mov (.slot 45)⟩]
def q76R9 : List AOper := [⟨some 46, none, .mov (.slot 12)⟩,
  ⟨some 47, none, .isnil .kf false (.slot 46)⟩]
def q76R10 : List AOper := [⟨some 48, none, .build (.data false 2 [] true :: .int .i64 0 :: .data false 1 [] true :: .data false 3 [] true :: .int .i64 0 :: .int .i64 0 :: .int .i64 0 :: .int .i64 0 :: .int .i64 0 :: .int .i64 0 :: .int .i64 0 :: .int .i64 0 :: .int .i64 0 :: .int .i64 0 :: .int .i64 0 :: .int .i64 0 :: .int .i64 0 :: .int .i64 0 :: .int .i64 0 :: .int .i64 0 :: .int .i64 0 :: .int .i64 0 :: .int .i64 0 :: .int .i64 0 :: .int .i64 0 :: .int .i64 0 :: .int .i64 0 :: .int .i64 0 :: .int .i64 0 :: .int .i64 0 :: .int .i64 0 :: .int .i64 0 :: .int .i64 0 :: []) []⟩,
  ⟨none, none, .store true 33 (.slot 8) (.slot 48)⟩,
  ⟨some 9, none, .mov (.const (.int .i64 2))⟩]
def q76R11 : List AOper := [⟨some 49, none, .load true 33 (.slot 4)⟩,
  ⟨some 50, none, .call .frz n_session_copied [(.slot 49)]⟩,
  ⟨none, none, .store true 33 (.slot 4) (.slot 50)⟩]
def q76R12 : List AOper := [⟨some 51, none, .mov (.slot 1)⟩,
  ⟨some 52, none, .mov (.slot 2)⟩,
  ⟨some 53, none, .faddr 24 (.slot 4)⟩,
  ⟨some 54, none, .idxarr 1 9 (.slot 53) (.slot 51)⟩,
  ⟨none, none, .store false 1 (.slot 54) (.slot 52)⟩]
def q76R13 : List AOper := [⟨some 55, none, .mov (.slot 12)⟩,
  ⟨some 56, none, .load true 33 (.slot 4)⟩,
  ⟨some 57, none, .callv (.slot 55) [(.slot 56)]⟩,
  ⟨none, none, .store true 33 (.slot 8) (.slot 57)⟩,
  ⟨some 9, none, .mov (.const (.int .i64 0))⟩]
def c_session_Take : AFn := ⟨(.seq (.region q76R0 false [1, 2, 4, 7, 8]) (.seq (.seq (.region q76R1 false [1, 2, 4, 7, 8, 15]) (.cond (.slot 15) (.seq (.region q76R2 false [8, 9]) .ret) .skip)) (.seq (.seq (.region q76R3 false [1, 2, 4, 7, 8, 11]) (.seq (.region q76R4 false [1, 2, 4, 7, 8, 25]) (.cond (.slot 25) (.seq (.region q76R5 false [8, 9]) .ret) .skip))) (.seq (.seq (.region q76R6 false [1, 2, 4, 7, 8, 40]) (.cond (.slot 40) (.seq (.region q76R7 false [8, 9]) .ret) .skip)) (.seq (.region q76R8 false [1, 2, 4, 8, 12]) (.seq (.seq (.region q76R9 false [1, 2, 4, 8, 12, 47]) (.cond (.slot 47) (.seq (.region q76R10 false [8, 9]) .ret) .skip)) (.seq (.region q76R11 false [1, 2, 4, 8, 12]) (.seq (.region q76R12 false [4, 8, 12]) (.seq (.region q76R13 false [8, 9]) .ret))))))))), [.cell 8 true 33, .slot 9]⟩
/- oriel/session.Write -/
def q77R0 : List AOper := [⟨some 2, none, .box 33 (.slot 0)⟩,
  ⟨some 4, none, .alloc (.data false 2 [] true :: .int .i64 0 :: .data false 1 [] true :: .data false 3 [] true :: .int .i64 0 :: .int .i64 0 :: .int .i64 0 :: .int .i64 0 :: .int .i64 0 :: .int .i64 0 :: .int .i64 0 :: .int .i64 0 :: .int .i64 0 :: .int .i64 0 :: .int .i64 0 :: .int .i64 0 :: .int .i64 0 :: .int .i64 0 :: .int .i64 0 :: .int .i64 0 :: .int .i64 0 :: .int .i64 0 :: .int .i64 0 :: .int .i64 0 :: .int .i64 0 :: .int .i64 0 :: .int .i64 0 :: .int .i64 0 :: .int .i64 0 :: .int .i64 0 :: .int .i64 0 :: .int .i64 0 :: .int .i64 0 :: [])⟩,
  ⟨some 5, none, .mov (.const (.data false 3 [] true))⟩]
def q77R1 : List AOper := [⟨some 7, none, .load true 33 (.slot 2)⟩,
  ⟨some 8, none, .call .frz n_session_May [(.slot 7)]⟩,
  ⟨some 9, none, .not (.slot 8)⟩]
def q77R2 : List AOper := [⟨some 10, none, .build (.data false 2 [] true :: .int .i64 0 :: .data false 1 [] true :: .data false 3 [] true :: .int .i64 0 :: .int .i64 0 :: .int .i64 0 :: .int .i64 0 :: .int .i64 0 :: .int .i64 0 :: .int .i64 0 :: .int .i64 0 :: .int .i64 0 :: .int .i64 0 :: .int .i64 0 :: .int .i64 0 :: .int .i64 0 :: .int .i64 0 :: .int .i64 0 :: .int .i64 0 :: .int .i64 0 :: .int .i64 0 :: .int .i64 0 :: .int .i64 0 :: .int .i64 0 :: .int .i64 0 :: .int .i64 0 :: .int .i64 0 :: .int .i64 0 :: .int .i64 0 :: .int .i64 0 :: .int .i64 0 :: .int .i64 0 :: []) []⟩,
  ⟨none, none, .store true 33 (.slot 4) (.slot 10)⟩,
  ⟨some 5, none, .mov (.const (.data false 3 [] true))⟩]
def q77R3 : List AOper := [⟨some 11, none, .load true 33 (.slot 2)⟩,
  ⟨some 12, none, .call .frz n_session_copied [(.slot 11)]⟩,
  ⟨none, none, .store true 33 (.slot 2) (.slot 12)⟩]
def q77R4 : List AOper := [⟨some 6, none, .mov (.const (.data false 3 [] true))⟩]
def q77R5 : List AOper := [⟨some 14, none, .faddr 3 (.slot 2)⟩,
  ⟨some 15, none, .load false 1 (.slot 14)⟩,
  ⟨some 16, none, .mov (.slot 1)⟩,
  ⟨some 17, none, .call .frz n_merge_Pop [(.slot 15), (.slot 16)]⟩,
  ⟨some 13, none, .mov (.slot 17)⟩,
  ⟨some 18, none, .extract 0 (.slot 13)⟩,
  ⟨some 19, none, .extract 1 (.slot 13)⟩,
  ⟨some 20, none, .faddr 3 (.slot 2)⟩,
  ⟨none, none, .store false 1 (.slot 20) (.slot 18)⟩,
  ⟨some 6, none, .mov (.slot 19)⟩]
def q77R6 : List AOper := [⟨some 21, none, .load true 33 (.slot 2)⟩,
  ⟨some 22, none, .mov (.slot 6)⟩,
  ⟨none, none, .store true 33 (.slot 4) (.slot 21)⟩,
  ⟨some 5, none, .mov (.slot 22)⟩]
def c_session_Write : AFn := ⟨(.seq (.region q77R0 false [1, 2, 4]) (.seq (.seq (.region q77R1 false [1, 2, 4, 9]) (.cond (.slot 9) (.seq (.region q77R2 false [4, 5]) .ret) .skip)) (.seq (.region q77R3 false [1, 2, 4]) (.seq (.region q77R4 false [1, 2, 4]) (.seq (.region q77R5 false [2, 4, 6]) (.seq (.region q77R6 false [4, 5]) .ret)))))), [.cell 4 true 33, .slot 5]⟩
/- oriel/session.First -/
def q68R0 : List AOper := [⟨some 0, none, .alloc (.data false 2 [] true :: .int .i64 0 :: .data false 1 [] true :: .data false 3 [] true :: .int .i64 0 :: .int .i64 0 :: .int .i64 0 :: .int .i64 0 :: .int .i64 0 :: .int .i64 0 :: .int .i64 0 :: .int .i64 0 :: .int .i64 0 :: .int .i64 0 :: .int .i64 0 :: .int .i64 0 :: .int .i64 0 :: .int .i64 0 :: .int .i64 0 :: .int .i64 0 :: .int .i64 0 :: .int .i64 0 :: .int .i64 0 :: .int .i64 0 :: .int .i64 0 :: .int .i64 0 :: .int .i64 0 :: .int .i64 0 :: .int .i64 0 :: .int .i64 0 :: .int .i64 0 :: .int .i64 0 :: .int .i64 0 :: [])⟩]
def q68R1 : List AOper := [⟨some 1, none, .build (.data false 2 [] true :: .int .i64 0 :: .data false 1 [] true :: .data false 3 [] true :: .int .i64 0 :: .int .i64 0 :: .int .i64 0 :: .int .i64 0 :: .int .i64 0 :: .int .i64 0 :: .int .i64 0 :: .int .i64 0 :: .int .i64 0 :: .int .i64 0 :: .int .i64 0 :: .int .i64 0 :: .int .i64 0 :: .int .i64 0 :: .int .i64 0 :: .int .i64 0 :: .int .i64 0 :: .int .i64 0 :: .int .i64 0 :: .int .i64 0 :: .int .i64 0 :: .int .i64 0 :: .int .i64 0 :: .int .i64 0 :: .int .i64 0 :: .int .i64 0 :: .int .i64 0 :: .int .i64 0 :: .int .i64 0 :: []) [(22, 1, (.const (.int .i64 24))), (23, 1, (.const (.int .i64 40)))]⟩,
  ⟨none, none, .store true 33 (.slot 0) (.slot 1)⟩]
def c_session_First : AFn := ⟨(.seq (.region q68R0 false [0]) (.seq (.region q68R1 false [0]) .ret)), [.cell 0 true 33]⟩
/- oriel/oriellaw30.known -/
def q9R0 : List AOper := [⟨some 0, none, .mov (.const (.bool false))⟩]
def q9R1 : List AOper := [⟨some 19, none, .build [.int .i64 0, .data false 1 [] true, .int .i64 0, .int .i64 0] [(0, 1, (.const (.int .i64 3)))]⟩,
  ⟨some 1, none, .alloc [.int .i64 0, .data false 1 [] true, .int .i64 0, .int .i64 0]⟩,
  ⟨none, none, .store true 4 (.slot 1) (.slot 19)⟩]
def q9R2 : List AOper := [⟨some 21, none, .call .frz n_session_First []⟩,
  ⟨some 22, none, .call .frz n_session_Join [(.slot 21), (.const (.int .i64 3)), (.const (.int .i64 2))]⟩,
  ⟨some 20, none, .mov (.slot 22)⟩,
  ⟨some 23, none, .extract 0 (.slot 20)⟩,
  ⟨some 24, none, .extract 1 (.slot 20)⟩,
  ⟨some 2, none, .alloc (.data false 2 [] true :: .int .i64 0 :: .data false 1 [] true :: .data false 3 [] true :: .int .i64 0 :: .int .i64 0 :: .int .i64 0 :: .int .i64 0 :: .int .i64 0 :: .int .i64 0 :: .int .i64 0 :: .int .i64 0 :: .int .i64 0 :: .int .i64 0 :: .int .i64 0 :: .int .i64 0 :: .int .i64 0 :: .int .i64 0 :: .int .i64 0 :: .int .i64 0 :: .int .i64 0 :: .int .i64 0 :: .int .i64 0 :: .int .i64 0 :: .int .i64 0 :: .int .i64 0 :: .int .i64 0 :: .int .i64 0 :: .int .i64 0 :: .int .i64 0 :: .int .i64 0 :: .int .i64 0 :: .int .i64 0 :: [])⟩,
  ⟨none, none, .store true 33 (.slot 2) (.slot 23)⟩,
  ⟨some 3, none, .mov (.slot 24)⟩]
def q9R3 : List AOper := [⟨some 26, none, .load true 33 (.slot 2)⟩,
  ⟨some 27, none, .load true 4 (.slot 1)⟩,
  ⟨some 28, none, .call .frz n_session_Take [(.slot 26), (.const (.int .i64 3)), (.const (.int .i64 1)), (.slot 27)]⟩,
  ⟨some 25, none, .mov (.slot 28)⟩,
  ⟨some 29, none, .extract 0 (.slot 25)⟩,
  ⟨some 30, none, .extract 1 (.slot 25)⟩,
  ⟨none, none, .store true 33 (.slot 2) (.slot 29)⟩,
  ⟨some 4, none, .mov (.slot 30)⟩]
def q9R4 : List AOper := [⟨some 32, none, .load true 33 (.slot 2)⟩,
  ⟨some 33, none, .mkslice 1 2 [.int .u8 0] [(0, (.const (.int .u8 97))), (1, (.const (.int .u8 98)))]⟩,
  ⟨some 34, none, .mark (.slot 33)⟩,
  ⟨some 35, none, .build [.int .i64 0, .data false 1 [] true, .int .i64 0, .int .i64 0] [(0, 1, (.const (.int .i64 1))), (1, 1, (.slot 34))]⟩,
  ⟨some 36, none, .call .frz n_session_Take [(.slot 32), (.const (.int .i64 3)), (.const (.int .i64 2)), (.slot 35)]⟩,
  ⟨some 31, none, .mov (.slot 36)⟩,
  ⟨some 37, none, .extract 0 (.slot 31)⟩,
  ⟨some 38, none, .extract 1 (.slot 31)⟩,
  ⟨none, none, .store true 33 (.slot 2) (.slot 37)⟩,
  ⟨some 5, none, .mov (.slot 38)⟩]
def q9R5 : List AOper := [⟨some 40, none, .load true 33 (.slot 2)⟩,
  ⟨some 41, none, .call .frz n_session_Join [(.slot 40), (.const (.int .i64 5)), (.const (.int .i64 2))]⟩,
  ⟨some 39, none, .mov (.slot 41)⟩,
  ⟨some 42, none, .extract 0 (.slot 39)⟩,
  ⟨some 43, none, .extract 1 (.slot 39)⟩,
  ⟨none, none, .store true 33 (.slot 2) (.slot 42)⟩,
  ⟨some 6, none, .mov (.slot 43)⟩]
def q9R6 : List AOper := [⟨some 45, none, .load true 33 (.slot 2)⟩,
  ⟨some 46, none, .mkslice 1 1 [.int .u8 0] [(0, (.const (.int .u8 120)))]⟩,
  ⟨some 47, none, .mark (.slot 46)⟩,
  ⟨some 48, none, .build [.int .i64 0, .data false 1 [] true, .int .i64 0, .int .i64 0] [(0, 1, (.const (.int .i64 1))), (1, 1, (.slot 47))]⟩,
  ⟨some 49, none, .call .frz n_session_Take [(.slot 45), (.const (.int .i64 5)), (.const (.int .i64 1)), (.slot 48)]⟩,
  ⟨some 44, none, .mov (.slot 49)⟩,
  ⟨some 50, none, .extract 0 (.slot 44)⟩,
  ⟨some 51, none, .extract 1 (.slot 44)⟩,
  ⟨none, none, .store true 33 (.slot 2) (.slot 50)⟩,
  ⟨some 7, none, .mov (.slot 51)⟩]
def q9R7 : List AOper := [⟨some 53, none, .load true 33 (.slot 2)⟩,
  ⟨some 54, none, .load true 4 (.slot 1)⟩,
  ⟨some 55, none, .call .frz n_session_Take [(.slot 53), (.const (.int .i64 5)), (.const (.int .i64 1)), (.slot 54)]⟩,
  ⟨some 52, none, .mov (.slot 55)⟩,
  ⟨some 56, none, .extract 0 (.slot 52)⟩,
  ⟨some 57, none, .extract 1 (.slot 52)⟩,
  ⟨some 8, none, .alloc (.data false 2 [] true :: .int .i64 0 :: .data false 1 [] true :: .data false 3 [] true :: .int .i64 0 :: .int .i64 0 :: .int .i64 0 :: .int .i64 0 :: .int .i64 0 :: .int .i64 0 :: .int .i64 0 :: .int .i64 0 :: .int .i64 0 :: .int .i64 0 :: .int .i64 0 :: .int .i64 0 :: .int .i64 0 :: .int .i64 0 :: .int .i64 0 :: .int .i64 0 :: .int .i64 0 :: .int .i64 0 :: .int .i64 0 :: .int .i64 0 :: .int .i64 0 :: .int .i64 0 :: .int .i64 0 :: .int .i64 0 :: .int .i64 0 :: .int .i64 0 :: .int .i64 0 :: .int .i64 0 :: .int .i64 0 :: [])⟩,
  ⟨none, none, .store true 33 (.slot 8) (.slot 56)⟩,
  ⟨some 9, none, .mov (.slot 57)⟩]
def q9R8 : List AOper := [⟨some 59, none, .load true 33 (.slot 2)⟩,
  ⟨some 60, none, .load true 4 (.slot 1)⟩,
  ⟨some 61, none, .call .frz n_session_Take [(.slot 59), (.const (.int .i64 9)), (.const (.int .i64 1)), (.slot 60)]⟩,
  ⟨some 58, none, .mov (.slot 61)⟩,
  ⟨some 62, none, .extract 0 (.slot 58)⟩,
  ⟨some 63, none, .extract 1 (.slot 58)⟩,
  ⟨some 10, none, .alloc (.data false 2 [] true :: .int .i64 0 :: .data false 1 [] true :: .data false 3 [] true :: .int .i64 0 :: .int .i64 0 :: .int .i64 0 :: .int .i64 0 :: .int .i64 0 :: .int .i64 0 :: .int .i64 0 :: .int .i64 0 :: .int .i64 0 :: .int .i64 0 :: .int .i64 0 :: .int .i64 0 :: .int .i64 0 :: .int .i64 0 :: .int .i64 0 :: .int .i64 0 :: .int .i64 0 :: .int .i64 0 :: .int .i64 0 :: .int .i64 0 :: .int .i64 0 :: .int .i64 0 :: .int .i64 0 :: .int .i64 0 :: .int .i64 0 :: .int .i64 0 :: .int .i64 0 :: .int .i64 0 :: .int .i64 0 :: [])⟩,
  ⟨none, none, .store true 33 (.slot 10) (.slot 62)⟩,
  ⟨some 11, none, .mov (.slot 63)⟩]
def q9R9 : List AOper := [⟨some 65, none, .load true 33 (.slot 2)⟩,
  ⟨some 66, none, .load true 4 (.slot 1)⟩,
  ⟨some 67, none, .call .frz n_session_Take [(.slot 65), (.const (.int .i64 5)), (.const (.int .i64 2)), (.slot 66)]⟩,
  ⟨some 64, none, .mov (.slot 67)⟩,
  ⟨some 68, none, .extract 0 (.slot 64)⟩,
  ⟨some 69, none, .extract 1 (.slot 64)⟩,
  ⟨none, none, .store true 33 (.slot 2) (.slot 68)⟩,
  ⟨some 12, none, .mov (.slot 69)⟩]
def q9R10 : List AOper := [⟨some 71, none, .load true 33 (.slot 2)⟩,
  ⟨some 72, none, .build [.int .i64 0, .data false 1 [] true, .int .i64 0, .int .i64 0] [(0, 1, (.const (.int .i64 2))), (2, 1, (.const (.int .i64 10))), (3, 1, (.const (.int .i64 20)))]⟩,
  ⟨some 73, none, .call .frz n_session_Take [(.slot 71), (.const (.int .i64 3)), (.const (.int .i64 3)), (.slot 72)]⟩,
  ⟨some 70, none, .mov (.slot 73)⟩,
  ⟨some 74, none, .extract 0 (.slot 70)⟩,
  ⟨some 75, none, .extract 1 (.slot 70)⟩,
  ⟨none, none, .store true 33 (.slot 2) (.slot 74)⟩,
  ⟨some 13, none, .mov (.slot 75)⟩]
def q9R11 : List AOper := [⟨some 77, none, .load true 33 (.slot 2)⟩,
  ⟨some 78, none, .call .frz n_session_Change [(.slot 77), (.const (.int .i64 3)), (.const (.int .i64 1))]⟩,
  ⟨some 76, none, .mov (.slot 78)⟩,
  ⟨some 79, none, .extract 0 (.slot 76)⟩,
  ⟨some 80, none, .extract 1 (.slot 76)⟩,
  ⟨none, none, .store true 33 (.slot 2) (.slot 79)⟩,
  ⟨some 14, none, .mov (.slot 80)⟩]
def q9R12 : List AOper := [⟨some 82, none, .load true 33 (.slot 2)⟩,
  ⟨some 83, none, .call .frz n_session_Write [(.slot 82), (.const (.int .i64 5))]⟩,
  ⟨some 81, none, .mov (.slot 83)⟩,
  ⟨some 84, none, .extract 0 (.slot 81)⟩,
  ⟨some 85, none, .extract 1 (.slot 81)⟩,
  ⟨some 15, none, .alloc (.data false 2 [] true :: .int .i64 0 :: .data false 1 [] true :: .data false 3 [] true :: .int .i64 0 :: .int .i64 0 :: .int .i64 0 :: .int .i64 0 :: .int .i64 0 :: .int .i64 0 :: .int .i64 0 :: .int .i64 0 :: .int .i64 0 :: .int .i64 0 :: .int .i64 0 :: .int .i64 0 :: .int .i64 0 :: .int .i64 0 :: .int .i64 0 :: .int .i64 0 :: .int .i64 0 :: .int .i64 0 :: .int .i64 0 :: .int .i64 0 :: .int .i64 0 :: .int .i64 0 :: .int .i64 0 :: .int .i64 0 :: .int .i64 0 :: .int .i64 0 :: .int .i64 0 :: .int .i64 0 :: .int .i64 0 :: [])⟩,
  ⟨none, none, .store true 33 (.slot 15) (.slot 84)⟩,
  ⟨some 16, none, .mov (.slot 85)⟩]
def q9R13 : List AOper := [⟨some 87, none, .load true 33 (.slot 15)⟩,
  ⟨some 88, none, .call .frz n_session_Leave [(.slot 87), (.const (.int .i64 5))]⟩,
  ⟨some 86, none, .mov (.slot 88)⟩,
  ⟨some 89, none, .extract 0 (.slot 86)⟩,
  ⟨some 90, none, .extract 1 (.slot 86)⟩,
  ⟨some 17, none, .alloc (.data false 2 [] true :: .int .i64 0 :: .data false 1 [] true :: .data false 3 [] true :: .int .i64 0 :: .int .i64 0 :: .int .i64 0 :: .int .i64 0 :: .int .i64 0 :: .int .i64 0 :: .int .i64 0 :: .int .i64 0 :: .int .i64 0 :: .int .i64 0 :: .int .i64 0 :: .int .i64 0 :: .int .i64 0 :: .int .i64 0 :: .int .i64 0 :: .int .i64 0 :: .int .i64 0 :: .int .i64 0 :: .int .i64 0 :: .int .i64 0 :: .int .i64 0 :: .int .i64 0 :: .int .i64 0 :: .int .i64 0 :: .int .i64 0 :: .int .i64 0 :: .int .i64 0 :: .int .i64 0 :: .int .i64 0 :: [])⟩,
  ⟨none, none, .store true 33 (.slot 17) (.slot 89)⟩,
  ⟨some 18, none, .mov (.slot 90)⟩]
def q9R14 : List AOper := ⟨some 91, none, .mov (.slot 3)⟩ ::
  ⟨some 92, none, .bin .neq (.slot 91) (.const (.int .i64 0))⟩ ::
  ⟨some 93, none, .mov (.slot 92)⟩ ::
  ⟨some 94, some (93, false), .mov (.slot 4)⟩ ::
  ⟨some 95, some (93, false), .bin .neq (.slot 94) (.const (.int .i64 0))⟩ ::
  ⟨some 96, none, .pick (.slot 93) (.const (.bool true)) (.slot 95)⟩ ::
  ⟨some 97, none, .mov (.slot 96)⟩ ::
  ⟨some 98, some (97, false), .mov (.slot 5)⟩ ::
  ⟨some 99, some (97, false), .bin .neq (.slot 98) (.const (.int .i64 0))⟩ ::
  ⟨some 100, none, .pick (.slot 97) (.const (.bool true)) (.slot 99)⟩ ::
  ⟨some 101, none, .mov (.slot 100)⟩ ::
  ⟨some 102, some (101, false), .mov (.slot 6)⟩ ::
  ⟨some 103, some (101, false), .bin .neq (.slot 102) (.const (.int .i64 0))⟩ ::
  ⟨some 104, none, .pick (.slot 101) (.const (.bool true)) (.slot 103)⟩ ::
  ⟨some 105, none, .mov (.slot 104)⟩ ::
  ⟨some 106, some (105, false), .mov (.slot 7)⟩ ::
  ⟨some 107, some (105, false), .bin .neq (.slot 106) (.const (.int .i64 0))⟩ ::
  ⟨some 108, none, .pick (.slot 105) (.const (.bool true)) (.slot 107)⟩ ::
  ⟨some 109, none, .mov (.slot 108)⟩ ::
  ⟨some 110, some (109, false), .mov (.slot 12)⟩ ::
  ⟨some 111, some (109, false), .bin .neq (.slot 110) (.const (.int .i64 0))⟩ ::
  ⟨some 112, none, .pick (.slot 109) (.const (.bool true)) (.slot 111)⟩ ::
  ⟨some 113, none, .mov (.slot 112)⟩ ::
  ⟨some 114, some (113, false), .mov (.slot 13)⟩ ::
  ⟨some 115, some (113, false), .bin .neq (.slot 114) (.const (.int .i64 0))⟩ ::
  ⟨some 116, none, .pick (.slot 113) (.const (.bool true)) (.slot 115)⟩ ::
  ⟨some 117, none, .mov (.slot 116)⟩ ::
  ⟨some 118, some (117, false), .mov (.slot 14)⟩ ::
  ⟨some 119, some (117, false), .bin .neq (.slot 118) (.const (.int .i64 0))⟩ ::
  ⟨some 120, none, .pick (.slot 117) (.const (.bool true)) (.slot 119)⟩ ::
  ⟨some 121, none, .mov (.slot 120)⟩ ::
  ⟨some 122, some (121, false), .mov (.slot 18)⟩ ::
  ⟨some 123, some (121, false), .bin .neq (.slot 122) (.const (.int .i64 0))⟩ ::
  ⟨some 124, none, .pick (.slot 121) (.const (.bool true)) (.slot 123)⟩ ::
  ⟨some 125, none, .mov (.slot 124)⟩ ::
  ⟨some 126, some (125, false), .mov (.slot 9)⟩ ::
  ⟨some 127, some (125, false), .bin .neq (.slot 126) (.const (.int .i64 300))⟩ ::
  ⟨some 128, none, .pick (.slot 125) (.const (.bool true)) (.slot 127)⟩ ::
  ⟨some 129, none, .mov (.slot 128)⟩ ::
  ⟨some 130, some (129, false), .mov (.slot 11)⟩ ::
  ⟨some 131, some (129, false), .bin .neq (.slot 130) (.const (.int .i64 6))⟩ ::
  ⟨some 132, none, .pick (.slot 129) (.const (.bool true)) (.slot 131)⟩ :: []
def q9R15 : List AOper := [⟨some 0, none, .mov (.const (.bool false))⟩]
def q9R16 : List AOper := ⟨some 133, none, .faddr 22 (.slot 2)⟩ ::
  ⟨some 134, none, .load false 1 (.slot 133)⟩ ::
  ⟨some 135, none, .bin .eql (.slot 134) (.const (.int .i64 10))⟩ ::
  ⟨some 136, none, .mov (.slot 135)⟩ ::
  ⟨some 137, some (136, true), .faddr 23 (.slot 2)⟩ ::
  ⟨some 138, some (136, true), .load false 1 (.slot 137)⟩ ::
  ⟨some 139, some (136, true), .bin .eql (.slot 138) (.const (.int .i64 20))⟩ ::
  ⟨some 140, none, .pick (.slot 136) (.slot 139) (.const (.bool false))⟩ ::
  ⟨some 141, none, .mov (.slot 140)⟩ ::
  ⟨some 142, some (141, true), .faddr 1 (.slot 2)⟩ ::
  ⟨some 143, some (141, true), .faddr 0 (.slot 142)⟩ ::
  ⟨some 144, some (141, true), .load false 1 (.slot 143)⟩ ::
  ⟨some 145, some (141, true), .bin .eql (.slot 144) (.const (.int .i64 5))⟩ ::
  ⟨some 146, none, .pick (.slot 141) (.slot 145) (.const (.bool false))⟩ ::
  ⟨some 147, none, .mov (.slot 146)⟩ ::
  ⟨some 148, some (147, true), .mov (.slot 16)⟩ ::
  ⟨some 149, some (147, true), .len false (.slot 148)⟩ ::
  ⟨some 150, some (147, true), .bin .eql (.slot 149) (.const (.int .i64 1))⟩ ::
  ⟨some 151, none, .pick (.slot 147) (.slot 150) (.const (.bool false))⟩ ::
  ⟨some 152, none, .mov (.slot 151)⟩ ::
  ⟨some 153, some (152, true), .mov (.slot 16)⟩ ::
  ⟨some 154, some (152, true), .idx 3 (.slot 153) (.const (.int .i64 0))⟩ ::
  ⟨some 155, some (152, true), .faddr 2 (.slot 154)⟩ ::
  ⟨some 156, some (152, true), .load false 1 (.slot 155)⟩ ::
  ⟨some 157, some (152, true), .bstr (.slot 156)⟩ ::
  ⟨some 158, some (152, true), .eq false [.ks] false (.slot 157) (.const (.str ⟨#[97, 98]⟩))⟩ ::
  ⟨some 159, none, .pick (.slot 152) (.slot 158) (.const (.bool false))⟩ ::
  ⟨some 160, none, .mov (.slot 159)⟩ ::
  ⟨some 161, some (160, true), .mov (.slot 16)⟩ ::
  ⟨some 162, some (160, true), .idx 3 (.slot 161) (.const (.int .i64 0))⟩ ::
  ⟨some 163, some (160, true), .faddr 0 (.slot 162)⟩ ::
  ⟨some 164, some (160, true), .load false 1 (.slot 163)⟩ ::
  ⟨some 165, some (160, true), .bin .eql (.slot 164) (.const (.int .i64 3))⟩ ::
  ⟨some 166, none, .pick (.slot 160) (.slot 165) (.const (.bool false))⟩ ::
  ⟨some 167, none, .mov (.slot 166)⟩ ::
  ⟨some 168, some (167, true), .faddr 1 (.slot 17)⟩ ::
  ⟨some 169, some (167, true), .faddr 0 (.slot 168)⟩ ::
  ⟨some 170, some (167, true), .load false 1 (.slot 169)⟩ ::
  ⟨some 171, some (167, true), .bin .eql (.slot 170) (.const (.int .i64 0))⟩ ::
  ⟨some 172, none, .pick (.slot 167) (.slot 171) (.const (.bool false))⟩ ::
  ⟨some 173, none, .mov (.slot 172)⟩ ::
  ⟨some 174, some (173, true), .faddr 3 (.slot 17)⟩ ::
  ⟨some 175, some (173, true), .load false 1 (.slot 174)⟩ ::
  ⟨some 176, some (173, true), .len false (.slot 175)⟩ ::
  ⟨some 177, some (173, true), .bin .eql (.slot 176) (.const (.int .i64 0))⟩ ::
  ⟨some 178, none, .pick (.slot 173) (.slot 177) (.const (.bool false))⟩ ::
  ⟨some 0, none, .mov (.slot 178)⟩ :: []
def c_law30_known : AFn := ⟨(.seq (.region q9R0 false []) (.seq (.region q9R1 false [1]) (.seq (.region q9R2 false [1, 2, 3]) (.seq (.region q9R3 false [1, 2, 3, 4]) (.seq (.region q9R4 false [1, 2, 3, 4, 5]) (.seq (.region q9R5 false [1, 2, 3, 4, 5, 6]) (.seq (.region q9R6 false [1, 2, 3, 4, 5, 6, 7]) (.seq (.region q9R7 false [1, 2, 3, 4, 5, 6, 7, 9]) (.seq (.region q9R8 false [1, 2, 3, 4, 5, 6, 7, 9, 11]) (.seq (.region q9R9 false [2, 3, 4, 5, 6, 7, 9, 11, 12]) (.seq (.region q9R10 false [2, 3, 4, 5, 6, 7, 9, 11, 12, 13]) (.seq (.region q9R11 false [2, 3, 4, 5, 6, 7, 9, 11, 12, 13, 14]) (.seq (.region q9R12 false [2, 3, 4, 5, 6, 7, 9, 11, 12, 13, 14, 15, 16]) (.seq (.region q9R13 false [2, 3, 4, 5, 6, 7, 9, 11, 12, 13, 14, 16, 17, 18]) (.seq (.seq (.region q9R14 false [2, 16, 17, 132]) (.cond (.slot 132) (.seq (.region q9R15 false [0]) .ret) .skip)) (.seq (.region q9R16 false [0]) .ret)))))))))))))))), [.slot 0]⟩
/- oriel/oriellaw30.great -/
def q8R0 : List AOper := [⟨some 1, none, .box 33 (.slot 0)⟩,
  ⟨some 2, none, .mov (.const (.bool false))⟩]
def q8R1 : List AOper := [⟨some 4, none, .faddr 0 (.slot 1)⟩,
  ⟨some 5, none, .load false 1 (.slot 4)⟩,
  ⟨some 6, none, .len false (.slot 5)⟩,
  ⟨some 7, none, .bin .gtr (.slot 6) (.const (.int .i64 50))⟩,
  ⟨some 8, none, .mov (.slot 7)⟩,
  ⟨some 9, some (8, false), .faddr 1 (.slot 1)⟩,
  ⟨some 10, some (8, false), .faddr 1 (.slot 9)⟩,
  ⟨some 11, some (8, false), .load false 1 (.slot 10)⟩,
  ⟨some 12, some (8, false), .len false (.slot 11)⟩,
  ⟨some 13, some (8, false), .bin .gtr (.slot 12) (.const (.int .i64 50))⟩,
  ⟨some 14, none, .pick (.slot 8) (.const (.bool true)) (.slot 13)⟩,
  ⟨some 15, none, .mov (.slot 14)⟩,
  ⟨some 16, some (15, false), .faddr 3 (.slot 1)⟩,
  ⟨some 17, some (15, false), .load false 1 (.slot 16)⟩,
  ⟨some 18, some (15, false), .len false (.slot 17)⟩,
  ⟨some 19, some (15, false), .bin .gtr (.slot 18) (.const (.int .i64 80))⟩,
  ⟨some 20, none, .pick (.slot 15) (.const (.bool true)) (.slot 19)⟩]
def q8R2 : List AOper := [⟨some 2, none, .mov (.const (.bool true))⟩]
def q8R3 : List AOper := [⟨some 3, none, .mov (.const (.int .i64 0))⟩]
def q8R4 : List AOper := [⟨some 21, none, .mov (.slot 3)⟩,
  ⟨some 22, none, .faddr 3 (.slot 1)⟩,
  ⟨some 23, none, .load false 1 (.slot 22)⟩,
  ⟨some 24, none, .len false (.slot 23)⟩,
  ⟨some 25, none, .bin .lss (.slot 21) (.slot 24)⟩]
def q8R6 : List AOper := [⟨some 28, none, .faddr 3 (.slot 1)⟩,
  ⟨some 29, none, .load false 1 (.slot 28)⟩,
  ⟨some 30, none, .mov (.slot 3)⟩,
  ⟨some 31, none, .idx 3 (.slot 29) (.slot 30)⟩,
  ⟨some 32, none, .faddr 2 (.slot 31)⟩,
  ⟨some 33, none, .load false 1 (.slot 32)⟩,
  ⟨some 34, none, .len false (.slot 33)⟩,
  ⟨some 35, none, .bin .gtr (.slot 34) (.const (.int .i64 100))⟩]
def q8R7 : List AOper := [⟨some 2, none, .mov (.const (.bool true))⟩]
def q8R5 : List AOper := [⟨some 26, none, .mov (.slot 3)⟩,
  ⟨some 27, none, .bin .add (.slot 26) (.const (.int .i64 1))⟩,
  ⟨some 3, none, .mov (.slot 27)⟩]
def c_law30_great_L0 : ACode := (.seq (.seq (.region q8R4 false [1, 3, 25]) (.cond (.slot 25) .skip (.exit 0))) (.seq (.block 1 (.seq (.region q8R6 false [1, 3, 35]) (.cond (.slot 35) (.seq (.region q8R7 false [2]) .ret) .skip))) (.region q8R5 false [1, 3])))
def lp_law30_great_0 : ACode := .loop [1, 3] c_law30_great_L0
def q8R8 : List AOper := [⟨some 2, none, .mov (.const (.bool false))⟩]
def c_law30_great : AFn := ⟨(.seq (.region q8R0 false [1]) (.seq (.seq (.region q8R1 false [1, 20]) (.cond (.slot 20) (.seq (.region q8R2 false [2]) .ret) .skip)) (.seq (.seq (.region q8R3 false [1, 3]) (.block 0 lp_law30_great_0)) (.seq (.region q8R8 false [2]) .ret)))), [.slot 2]⟩
/- oriel/orielref28.Copy -/
def q36R0 : List AOper := [⟨some 2, none, .mov (.const (.data false 3 [] true))⟩]
def q36R1 : List AOper := [⟨some 3, none, .mknil 3⟩]
def q36R2 : List AOper := [⟨some 4, none, .mov (.const (.int .i64 0))⟩]
def q36R3 : List AOper := [⟨some 6, none, .mov (.slot 4)⟩,
  ⟨some 7, none, .mov (.slot 0)⟩,
  ⟨some 8, none, .len false (.slot 7)⟩,
  ⟨some 9, none, .bin .lss (.slot 6) (.slot 8)⟩]
def q36R5 : List AOper := [⟨some 12, none, .mov (.slot 0)⟩,
  ⟨some 13, none, .mov (.slot 4)⟩,
  ⟨some 14, none, .idx 3 (.slot 12) (.slot 13)⟩,
  ⟨some 15, none, .load true 3 (.slot 14)⟩,
  ⟨some 5, none, .alloc [.int .i64 0, .int .i64 0, .data false 1 [] true]⟩,
  ⟨none, none, .store true 3 (.slot 5) (.slot 15)⟩]
def q36R6 : List AOper := [⟨some 16, none, .mkdata 1 0 [.int .u8 0] []⟩,
  ⟨some 17, none, .faddr 2 (.slot 5)⟩,
  ⟨some 18, none, .load false 1 (.slot 17)⟩,
  ⟨some 19, none, .appendD 1 1 (.slot 16) (.slot 18)⟩,
  ⟨some 20, none, .faddr 2 (.slot 5)⟩,
  ⟨none, none, .store false 1 (.slot 20) (.slot 19)⟩]
def q36R7 : List AOper := [⟨some 21, none, .mov (.slot 3)⟩,
  ⟨some 22, none, .load true 3 (.slot 5)⟩,
  ⟨some 23, none, .mkslice 3 1 [.int .i64 0, .int .i64 0, .data false 1 [] true] [(0, (.slot 22))]⟩,
  ⟨some 24, none, .append 3 40 (.slot 21) (.slot 23)⟩,
  ⟨some 3, none, .mov (.slot 24)⟩]
def q36R4 : List AOper := [⟨some 10, none, .mov (.slot 4)⟩,
  ⟨some 11, none, .bin .add (.slot 10) (.const (.int .i64 1))⟩,
  ⟨some 4, none, .mov (.slot 11)⟩]
def c_ref28_Copy_L0 : ACode := (.seq (.seq (.region q36R3 false [0, 3, 4, 9]) (.cond (.slot 9) .skip (.exit 0))) (.seq (.block 1 (.seq (.region q36R5 false [0, 3, 4, 5]) (.seq (.region q36R6 false [0, 3, 4, 5]) (.region q36R7 false [0, 3, 4])))) (.region q36R4 false [0, 3, 4])))
def lp_ref28_Copy_0 : ACode := .loop [0, 3, 4] c_ref28_Copy_L0
def q36R8 : List AOper := [⟨some 25, none, .mov (.slot 3)⟩,
  ⟨some 2, none, .mov (.slot 25)⟩]
def c_ref28_Copy : AFn := ⟨(.seq (.region q36R0 false [0]) (.seq (.region q36R1 false [0, 3]) (.seq (.seq (.region q36R2 false [0, 3, 4]) (.block 0 lp_ref28_Copy_0)) (.seq (.region q36R8 false [2]) .ret)))), [.slot 2]⟩
/- oriel/orielref30.Copy -/
def q47R0 : List AOper := [⟨some 1, none, .box 33 (.slot 0)⟩,
  ⟨some 2, none, .alloc (.data false 2 [] true :: .int .i64 0 :: .data false 1 [] true :: .data false 3 [] true :: .int .i64 0 :: .int .i64 0 :: .int .i64 0 :: .int .i64 0 :: .int .i64 0 :: .int .i64 0 :: .int .i64 0 :: .int .i64 0 :: .int .i64 0 :: .int .i64 0 :: .int .i64 0 :: .int .i64 0 :: .int .i64 0 :: .int .i64 0 :: .int .i64 0 :: .int .i64 0 :: .int .i64 0 :: .int .i64 0 :: .int .i64 0 :: .int .i64 0 :: .int .i64 0 :: .int .i64 0 :: .int .i64 0 :: .int .i64 0 :: .int .i64 0 :: .int .i64 0 :: .int .i64 0 :: .int .i64 0 :: .int .i64 0 :: [])⟩]
def q47R1 : List AOper := [⟨some 3, none, .mkslice 2 0 [.int .i64 0, .int .i64 0] []⟩,
  ⟨some 4, none, .faddr 0 (.slot 1)⟩,
  ⟨some 5, none, .load false 1 (.slot 4)⟩,
  ⟨some 6, none, .append 2 16 (.slot 3) (.slot 5)⟩,
  ⟨some 7, none, .faddr 0 (.slot 1)⟩,
  ⟨none, none, .store false 1 (.slot 7) (.slot 6)⟩]
def q47R2 : List AOper := [⟨some 8, none, .mkslice 1 0 [.int .i64 0] []⟩,
  ⟨some 9, none, .faddr 1 (.slot 1)⟩,
  ⟨some 10, none, .faddr 1 (.slot 9)⟩,
  ⟨some 11, none, .load false 1 (.slot 10)⟩,
  ⟨some 12, none, .append 1 8 (.slot 8) (.slot 11)⟩,
  ⟨some 13, none, .faddr 1 (.slot 1)⟩,
  ⟨some 14, none, .faddr 1 (.slot 13)⟩,
  ⟨none, none, .store false 1 (.slot 14) (.slot 12)⟩]
def q47R3 : List AOper := [⟨some 15, none, .faddr 3 (.slot 1)⟩,
  ⟨some 16, none, .load false 1 (.slot 15)⟩,
  ⟨some 17, none, .call .frz n_ref28_Copy [(.slot 16)]⟩,
  ⟨some 18, none, .faddr 3 (.slot 1)⟩,
  ⟨none, none, .store false 1 (.slot 18) (.slot 17)⟩]
def q47R4 : List AOper := [⟨some 19, none, .load true 33 (.slot 1)⟩,
  ⟨none, none, .store true 33 (.slot 2) (.slot 19)⟩]
def c_ref30_Copy : AFn := ⟨(.seq (.region q47R0 false [1, 2]) (.seq (.region q47R1 false [1, 2]) (.seq (.region q47R2 false [1, 2]) (.seq (.region q47R3 false [1, 2]) (.seq (.region q47R4 false [2]) .ret))))), [.cell 2 true 33]⟩
/- oriel/orielref28.Same -/
def q41R0 : List AOper := [⟨some 4, none, .mov (.const (.bool false))⟩]
def q41R1 : List AOper := [⟨some 6, none, .mov (.slot 0)⟩,
  ⟨some 7, none, .len false (.slot 6)⟩,
  ⟨some 8, none, .mov (.slot 1)⟩,
  ⟨some 9, none, .len false (.slot 8)⟩,
  ⟨some 10, none, .bin .neq (.slot 7) (.slot 9)⟩]
def q41R2 : List AOper := [⟨some 4, none, .mov (.const (.bool false))⟩]
def q41R3 : List AOper := [⟨some 5, none, .mov (.const (.int .i64 0))⟩]
def q41R4 : List AOper := [⟨some 11, none, .mov (.slot 5)⟩,
  ⟨some 12, none, .mov (.slot 0)⟩,
  ⟨some 13, none, .len false (.slot 12)⟩,
  ⟨some 14, none, .bin .lss (.slot 11) (.slot 13)⟩]
def q41R6 : List AOper := ⟨some 17, none, .mov (.slot 0)⟩ ::
  ⟨some 18, none, .mov (.slot 5)⟩ ::
  ⟨some 19, none, .idx 3 (.slot 17) (.slot 18)⟩ ::
  ⟨some 20, none, .faddr 0 (.slot 19)⟩ ::
  ⟨some 21, none, .load false 1 (.slot 20)⟩ ::
  ⟨some 22, none, .mov (.slot 1)⟩ ::
  ⟨some 23, none, .mov (.slot 5)⟩ ::
  ⟨some 24, none, .idx 3 (.slot 22) (.slot 23)⟩ ::
  ⟨some 25, none, .faddr 0 (.slot 24)⟩ ::
  ⟨some 26, none, .load false 1 (.slot 25)⟩ ::
  ⟨some 27, none, .bin .neq (.slot 21) (.slot 26)⟩ ::
  ⟨some 28, none, .mov (.slot 27)⟩ ::
  ⟨some 29, some (28, false), .mov (.slot 0)⟩ ::
  ⟨some 30, some (28, false), .mov (.slot 5)⟩ ::
  ⟨some 31, some (28, false), .idx 3 (.slot 29) (.slot 30)⟩ ::
  ⟨some 32, some (28, false), .faddr 1 (.slot 31)⟩ ::
  ⟨some 33, some (28, false), .load false 1 (.slot 32)⟩ ::
  ⟨some 34, some (28, false), .mov (.slot 1)⟩ ::
  ⟨some 35, some (28, false), .mov (.slot 5)⟩ ::
  ⟨some 36, some (28, false), .idx 3 (.slot 34) (.slot 35)⟩ ::
  ⟨some 37, some (28, false), .faddr 1 (.slot 36)⟩ ::
  ⟨some 38, some (28, false), .load false 1 (.slot 37)⟩ ::
  ⟨some 39, some (28, false), .bin .neq (.slot 33) (.slot 38)⟩ ::
  ⟨some 40, none, .pick (.slot 28) (.const (.bool true)) (.slot 39)⟩ ::
  ⟨some 41, none, .mov (.slot 40)⟩ ::
  ⟨some 42, some (41, false), .mov (.slot 0)⟩ ::
  ⟨some 43, some (41, false), .mov (.slot 5)⟩ ::
  ⟨some 44, some (41, false), .idx 3 (.slot 42) (.slot 43)⟩ ::
  ⟨some 45, some (41, false), .faddr 2 (.slot 44)⟩ ::
  ⟨some 46, some (41, false), .load false 1 (.slot 45)⟩ ::
  ⟨some 47, some (41, false), .bstr (.slot 46)⟩ ::
  ⟨some 48, some (41, false), .mov (.slot 1)⟩ ::
  ⟨some 49, some (41, false), .mov (.slot 5)⟩ ::
  ⟨some 50, some (41, false), .idx 3 (.slot 48) (.slot 49)⟩ ::
  ⟨some 51, some (41, false), .faddr 2 (.slot 50)⟩ ::
  ⟨some 52, some (41, false), .load false 1 (.slot 51)⟩ ::
  ⟨some 53, some (41, false), .bstr (.slot 52)⟩ ::
  ⟨some 54, some (41, false), .eq false [.ks] true (.slot 47) (.slot 53)⟩ ::
  ⟨some 55, none, .pick (.slot 41) (.const (.bool true)) (.slot 54)⟩ :: []
def q41R7 : List AOper := [⟨some 4, none, .mov (.const (.bool false))⟩]
def q41R5 : List AOper := [⟨some 15, none, .mov (.slot 5)⟩,
  ⟨some 16, none, .bin .add (.slot 15) (.const (.int .i64 1))⟩,
  ⟨some 5, none, .mov (.slot 16)⟩]
def c_ref28_Same_L0 : ACode := (.seq (.seq (.region q41R4 false [0, 1, 5, 14]) (.cond (.slot 14) .skip (.exit 0))) (.seq (.block 1 (.seq (.region q41R6 true [0, 1, 5, 55]) (.cond (.slot 55) (.seq (.region q41R7 false [4]) .ret) .skip))) (.region q41R5 false [0, 1, 5])))
def lp_ref28_Same_0 : ACode := .loop [0, 1, 5] c_ref28_Same_L0
def q41R8 : List AOper := [⟨some 4, none, .mov (.const (.bool true))⟩]
def c_ref28_Same : AFn := ⟨(.seq (.region q41R0 false [0, 1]) (.seq (.seq (.region q41R1 false [0, 1, 10]) (.cond (.slot 10) (.seq (.region q41R2 false [4]) .ret) .skip)) (.seq (.seq (.region q41R3 false [0, 1, 5]) (.block 0 lp_ref28_Same_0)) (.seq (.region q41R8 false [4]) .ret)))), [.slot 4]⟩
/- oriel/orielref26.Same -/
def q26R0 : List AOper := [⟨some 4, none, .mov (.const (.bool false))⟩]
def q26R1 : List AOper := [⟨some 6, none, .mov (.slot 0)⟩,
  ⟨some 7, none, .len false (.slot 6)⟩,
  ⟨some 8, none, .mov (.slot 1)⟩,
  ⟨some 9, none, .len false (.slot 8)⟩,
  ⟨some 10, none, .bin .neq (.slot 7) (.slot 9)⟩]
def q26R2 : List AOper := [⟨some 4, none, .mov (.const (.bool false))⟩]
def q26R3 : List AOper := [⟨some 5, none, .mov (.const (.int .i64 0))⟩]
def q26R4 : List AOper := [⟨some 11, none, .mov (.slot 5)⟩,
  ⟨some 12, none, .mov (.slot 0)⟩,
  ⟨some 13, none, .len false (.slot 12)⟩,
  ⟨some 14, none, .bin .lss (.slot 11) (.slot 13)⟩]
def q26R6 : List AOper := [⟨some 17, none, .mov (.slot 0)⟩,
  ⟨some 18, none, .mov (.slot 5)⟩,
  ⟨some 19, none, .idx 2 (.slot 17) (.slot 18)⟩,
  ⟨some 20, none, .load true 2 (.slot 19)⟩,
  ⟨some 21, none, .mov (.slot 1)⟩,
  ⟨some 22, none, .mov (.slot 5)⟩,
  ⟨some 23, none, .idx 2 (.slot 21) (.slot 22)⟩,
  ⟨some 24, none, .load true 2 (.slot 23)⟩,
  ⟨some 25, none, .eq true [.ki, .ki] true (.slot 20) (.slot 24)⟩]
def q26R7 : List AOper := [⟨some 4, none, .mov (.const (.bool false))⟩]
def q26R5 : List AOper := [⟨some 15, none, .mov (.slot 5)⟩,
  ⟨some 16, none, .bin .add (.slot 15) (.const (.int .i64 1))⟩,
  ⟨some 5, none, .mov (.slot 16)⟩]
def c_ref26_Same_L0 : ACode := (.seq (.seq (.region q26R4 false [0, 1, 5, 14]) (.cond (.slot 14) .skip (.exit 0))) (.seq (.block 1 (.seq (.region q26R6 true [0, 1, 5, 25]) (.cond (.slot 25) (.seq (.region q26R7 false [4]) .ret) .skip))) (.region q26R5 false [0, 1, 5])))
def lp_ref26_Same_0 : ACode := .loop [0, 1, 5] c_ref26_Same_L0
def q26R8 : List AOper := [⟨some 4, none, .mov (.const (.bool true))⟩]
def c_ref26_Same : AFn := ⟨(.seq (.region q26R0 false [0, 1]) (.seq (.seq (.region q26R1 false [0, 1, 10]) (.cond (.slot 10) (.seq (.region q26R2 false [4]) .ret) .skip)) (.seq (.seq (.region q26R3 false [0, 1, 5]) (.block 0 lp_ref26_Same_0)) (.seq (.region q26R8 false [4]) .ret)))), [.slot 4]⟩
/- oriel/orielref27.Same -/
def q35R0 : List AOper := [⟨some 2, none, .box 2 (.slot 0)⟩,
  ⟨some 3, none, .box 2 (.slot 1)⟩,
  ⟨some 4, none, .mov (.const (.bool false))⟩]
def q35R1 : List AOper := [⟨some 6, none, .faddr 0 (.slot 2)⟩,
  ⟨some 7, none, .load false 1 (.slot 6)⟩,
  ⟨some 8, none, .faddr 0 (.slot 3)⟩,
  ⟨some 9, none, .load false 1 (.slot 8)⟩,
  ⟨some 10, none, .bin .neq (.slot 7) (.slot 9)⟩,
  ⟨some 11, none, .mov (.slot 10)⟩,
  ⟨some 12, some (11, false), .faddr 1 (.slot 2)⟩,
  ⟨some 13, some (11, false), .load false 1 (.slot 12)⟩,
  ⟨some 14, some (11, false), .len false (.slot 13)⟩,
  ⟨some 15, some (11, false), .faddr 1 (.slot 3)⟩,
  ⟨some 16, some (11, false), .load false 1 (.slot 15)⟩,
  ⟨some 17, some (11, false), .len false (.slot 16)⟩,
  ⟨some 18, some (11, false), .bin .neq (.slot 14) (.slot 17)⟩,
  ⟨some 19, none, .pick (.slot 11) (.const (.bool true)) (.slot 18)⟩]
def q35R2 : List AOper := [⟨some 4, none, .mov (.const (.bool false))⟩]
def q35R3 : List AOper := [⟨some 5, none, .mov (.const (.int .i64 0))⟩]
def q35R4 : List AOper := [⟨some 20, none, .mov (.slot 5)⟩,
  ⟨some 21, none, .faddr 1 (.slot 2)⟩,
  ⟨some 22, none, .load false 1 (.slot 21)⟩,
  ⟨some 23, none, .len false (.slot 22)⟩,
  ⟨some 24, none, .bin .lss (.slot 20) (.slot 23)⟩]
def q35R6 : List AOper := [⟨some 27, none, .faddr 1 (.slot 2)⟩,
  ⟨some 28, none, .load false 1 (.slot 27)⟩,
  ⟨some 29, none, .mov (.slot 5)⟩,
  ⟨some 30, none, .idx 1 (.slot 28) (.slot 29)⟩,
  ⟨some 31, none, .load false 1 (.slot 30)⟩,
  ⟨some 32, none, .faddr 1 (.slot 3)⟩,
  ⟨some 33, none, .load false 1 (.slot 32)⟩,
  ⟨some 34, none, .mov (.slot 5)⟩,
  ⟨some 35, none, .idx 1 (.slot 33) (.slot 34)⟩,
  ⟨some 36, none, .load false 1 (.slot 35)⟩,
  ⟨some 37, none, .bin .neq (.slot 31) (.slot 36)⟩]
def q35R7 : List AOper := [⟨some 4, none, .mov (.const (.bool false))⟩]
def q35R5 : List AOper := [⟨some 25, none, .mov (.slot 5)⟩,
  ⟨some 26, none, .bin .add (.slot 25) (.const (.int .i64 1))⟩,
  ⟨some 5, none, .mov (.slot 26)⟩]
def c_ref27_Same_L0 : ACode := (.seq (.seq (.region q35R4 false [2, 3, 5, 24]) (.cond (.slot 24) .skip (.exit 0))) (.seq (.block 1 (.seq (.region q35R6 true [2, 3, 5, 37]) (.cond (.slot 37) (.seq (.region q35R7 false [4]) .ret) .skip))) (.region q35R5 false [2, 3, 5])))
def lp_ref27_Same_0 : ACode := .loop [2, 3, 5] c_ref27_Same_L0
def q35R8 : List AOper := [⟨some 4, none, .mov (.const (.bool true))⟩]
def c_ref27_Same : AFn := ⟨(.seq (.region q35R0 false [2, 3]) (.seq (.seq (.region q35R1 false [2, 3, 19]) (.cond (.slot 19) (.seq (.region q35R2 false [4]) .ret) .skip)) (.seq (.seq (.region q35R3 false [2, 3, 5]) (.block 0 lp_ref27_Same_0)) (.seq (.region q35R8 false [4]) .ret)))), [.slot 4]⟩
/- oriel/orielref30.Same -/
def q52R0 : List AOper := [⟨some 2, none, .box 33 (.slot 0)⟩,
  ⟨some 3, none, .box 33 (.slot 1)⟩,
  ⟨some 4, none, .mov (.const (.bool false))⟩]
def q52R1 : List AOper := ⟨some 5, none, .faddr 0 (.slot 2)⟩ ::
  ⟨some 6, none, .load false 1 (.slot 5)⟩ ::
  ⟨some 7, none, .faddr 0 (.slot 3)⟩ ::
  ⟨some 8, none, .load false 1 (.slot 7)⟩ ::
  ⟨some 9, none, .call .frz n_ref26_Same [(.slot 6), (.slot 8)]⟩ ::
  ⟨some 10, none, .mov (.slot 9)⟩ ::
  ⟨some 11, some (10, true), .faddr 1 (.slot 2)⟩ ::
  ⟨some 12, some (10, true), .load true 2 (.slot 11)⟩ ::
  ⟨some 13, some (10, true), .faddr 1 (.slot 3)⟩ ::
  ⟨some 14, some (10, true), .load true 2 (.slot 13)⟩ ::
  ⟨some 15, some (10, true), .call .frz n_ref27_Same [(.slot 12), (.slot 14)]⟩ ::
  ⟨some 16, none, .pick (.slot 10) (.slot 15) (.const (.bool false))⟩ ::
  ⟨some 17, none, .mov (.slot 16)⟩ ::
  ⟨some 18, some (17, true), .faddr 3 (.slot 2)⟩ ::
  ⟨some 19, some (17, true), .load false 1 (.slot 18)⟩ ::
  ⟨some 20, some (17, true), .faddr 3 (.slot 3)⟩ ::
  ⟨some 21, some (17, true), .load false 1 (.slot 20)⟩ ::
  ⟨some 22, some (17, true), .call .frz n_ref28_Same [(.slot 19), (.slot 21)]⟩ ::
  ⟨some 23, none, .pick (.slot 17) (.slot 22) (.const (.bool false))⟩ ::
  ⟨some 24, none, .mov (.slot 23)⟩ ::
  ⟨some 25, some (24, true), .faddr 4 (.slot 2)⟩ ::
  ⟨some 26, some (24, true), .load true 18 (.slot 25)⟩ ::
  ⟨some 27, some (24, true), .faddr 4 (.slot 3)⟩ ::
  ⟨some 28, some (24, true), .load true 18 (.slot 27)⟩ ::
  ⟨some 29, some (24, true), .eq true [.ki, .ki, .ki, .ki, .ki, .ki, .ki, .ki, .ki, .ki, .ki, .ki, .ki, .ki, .ki, .ki, .ki, .ki] false (.slot 26) (.slot 28)⟩ ::
  ⟨some 30, none, .pick (.slot 24) (.slot 29) (.const (.bool false))⟩ ::
  ⟨some 31, none, .mov (.slot 30)⟩ ::
  ⟨some 32, some (31, true), .faddr 22 (.slot 2)⟩ ::
  ⟨some 33, some (31, true), .load false 1 (.slot 32)⟩ ::
  ⟨some 34, some (31, true), .faddr 22 (.slot 3)⟩ ::
  ⟨some 35, some (31, true), .load false 1 (.slot 34)⟩ ::
  ⟨some 36, some (31, true), .bin .eql (.slot 33) (.slot 35)⟩ ::
  ⟨some 37, none, .pick (.slot 31) (.slot 36) (.const (.bool false))⟩ ::
  ⟨some 38, none, .mov (.slot 37)⟩ ::
  ⟨some 39, some (38, true), .faddr 23 (.slot 2)⟩ ::
  ⟨some 40, some (38, true), .load false 1 (.slot 39)⟩ ::
  ⟨some 41, some (38, true), .faddr 23 (.slot 3)⟩ ::
  ⟨some 42, some (38, true), .load false 1 (.slot 41)⟩ ::
  ⟨some 43, some (38, true), .bin .eql (.slot 40) (.slot 42)⟩ ::
  ⟨some 44, none, .pick (.slot 38) (.slot 43) (.const (.bool false))⟩ ::
  ⟨some 45, none, .mov (.slot 44)⟩ ::
  ⟨some 46, some (45, true), .faddr 24 (.slot 2)⟩ ::
  ⟨some 47, some (45, true), .load true 9 (.slot 46)⟩ ::
  ⟨some 48, some (45, true), .faddr 24 (.slot 3)⟩ ::
  ⟨some 49, some (45, true), .load true 9 (.slot 48)⟩ ::
  ⟨some 50, some (45, true), .eq true [.ki, .ki, .ki, .ki, .ki, .ki, .ki, .ki, .ki] false (.slot 47) (.slot 49)⟩ ::
  ⟨some 51, none, .pick (.slot 45) (.slot 50) (.const (.bool false))⟩ ::
  ⟨some 4, none, .mov (.slot 51)⟩ :: []
def c_ref30_Same : AFn := ⟨(.seq (.region q52R0 false [2, 3]) (.seq (.region q52R1 false [4]) .ret)), [.slot 4]⟩
/- oriel/orielref20.List -/
def q19R0 : List AOper := [⟨some 4, none, .mov (.const (.bool false))⟩]
def q19R1 : List AOper := [⟨some 7, none, .mov (.slot 1)⟩,
  ⟨some 8, none, .bin .eql (.slot 7) (.const (.int .i64 0))⟩,
  ⟨some 5, none, .mov (.slot 8)⟩]
def q19R2 : List AOper := [⟨some 6, none, .mov (.const (.int .i64 0))⟩]
def q19R3 : List AOper := [⟨some 9, none, .mov (.slot 6)⟩,
  ⟨some 10, none, .mov (.slot 0)⟩,
  ⟨some 11, none, .len false (.slot 10)⟩,
  ⟨some 12, none, .bin .lss (.slot 9) (.slot 11)⟩]
def q19R5 : List AOper := ⟨some 15, none, .mov (.slot 0)⟩ ::
  ⟨some 16, none, .mov (.slot 6)⟩ ::
  ⟨some 17, none, .idx 2 (.slot 15) (.slot 16)⟩ ::
  ⟨some 18, none, .faddr 0 (.slot 17)⟩ ::
  ⟨some 19, none, .load false 1 (.slot 18)⟩ ::
  ⟨some 20, none, .bin .lss (.slot 19) (.const (.int .i64 1))⟩ ::
  ⟨some 21, none, .mov (.slot 20)⟩ ::
  ⟨some 22, some (21, false), .mov (.slot 0)⟩ ::
  ⟨some 23, some (21, false), .mov (.slot 6)⟩ ::
  ⟨some 24, some (21, false), .idx 2 (.slot 22) (.slot 23)⟩ ::
  ⟨some 25, some (21, false), .faddr 0 (.slot 24)⟩ ::
  ⟨some 26, some (21, false), .load false 1 (.slot 25)⟩ ::
  ⟨some 27, some (21, false), .bin .gtr (.slot 26) (.const (.int .i64 8))⟩ ::
  ⟨some 28, none, .pick (.slot 21) (.const (.bool true)) (.slot 27)⟩ ::
  ⟨some 29, none, .mov (.slot 28)⟩ ::
  ⟨some 30, some (29, false), .mov (.slot 0)⟩ ::
  ⟨some 31, some (29, false), .mov (.slot 6)⟩ ::
  ⟨some 32, some (29, false), .idx 2 (.slot 30) (.slot 31)⟩ ::
  ⟨some 33, some (29, false), .faddr 1 (.slot 32)⟩ ::
  ⟨some 34, some (29, false), .load false 1 (.slot 33)⟩ ::
  ⟨some 35, some (29, false), .bin .lss (.slot 34) (.const (.int .i64 1))⟩ ::
  ⟨some 36, none, .pick (.slot 29) (.const (.bool true)) (.slot 35)⟩ ::
  ⟨some 37, none, .mov (.slot 36)⟩ ::
  ⟨some 38, some (37, false), .mov (.slot 0)⟩ ::
  ⟨some 39, some (37, false), .mov (.slot 6)⟩ ::
  ⟨some 40, some (37, false), .idx 2 (.slot 38) (.slot 39)⟩ ::
  ⟨some 41, some (37, false), .faddr 1 (.slot 40)⟩ ::
  ⟨some 42, some (37, false), .load false 1 (.slot 41)⟩ ::
  ⟨some 43, some (37, false), .bin .gtr (.slot 42) (.const (.int .i64 2))⟩ ::
  ⟨some 44, none, .pick (.slot 37) (.const (.bool true)) (.slot 43)⟩ ::
  ⟨some 45, none, .mov (.slot 44)⟩ ::
  ⟨some 46, some (45, false), .mov (.slot 6)⟩ ::
  ⟨some 47, some (45, false), .bin .gtr (.slot 46) (.const (.int .i64 0))⟩ ::
  ⟨some 48, some (45, false), .mov (.slot 47)⟩ ::
  ⟨some 49, some (48, true), .mov (.slot 0)⟩ ::
  ⟨some 50, some (48, true), .mov (.slot 6)⟩ ::
  ⟨some 51, some (48, true), .idx 2 (.slot 49) (.slot 50)⟩ ::
  ⟨some 52, some (48, true), .faddr 0 (.slot 51)⟩ ::
  ⟨some 53, some (48, true), .load false 1 (.slot 52)⟩ ::
  ⟨some 54, some (48, true), .mov (.slot 0)⟩ ::
  ⟨some 55, some (48, true), .mov (.slot 6)⟩ ::
  ⟨some 56, some (48, true), .bin .sub (.slot 55) (.const (.int .i64 1))⟩ ::
  ⟨some 57, some (48, true), .idx 2 (.slot 54) (.slot 56)⟩ ::
  ⟨some 58, some (48, true), .faddr 0 (.slot 57)⟩ ::
  ⟨some 59, some (48, true), .load false 1 (.slot 58)⟩ ::
  ⟨some 60, some (48, true), .bin .leq (.slot 53) (.slot 59)⟩ ::
  ⟨some 61, some (45, false), .pick (.slot 48) (.slot 60) (.const (.bool false))⟩ ::
  ⟨some 62, none, .pick (.slot 45) (.const (.bool true)) (.slot 61)⟩ :: []
def q19R6 : List AOper := [⟨some 4, none, .mov (.const (.bool false))⟩]
def q19R7 : List AOper := [⟨some 63, none, .mov (.slot 0)⟩,
  ⟨some 64, none, .mov (.slot 6)⟩,
  ⟨some 65, none, .idx 2 (.slot 63) (.slot 64)⟩,
  ⟨some 66, none, .faddr 0 (.slot 65)⟩,
  ⟨some 67, none, .load false 1 (.slot 66)⟩,
  ⟨some 68, none, .mov (.slot 1)⟩,
  ⟨some 69, none, .bin .eql (.slot 67) (.slot 68)⟩,
  ⟨some 70, none, .mov (.slot 69)⟩,
  ⟨some 71, some (70, true), .mov (.slot 0)⟩,
  ⟨some 72, some (70, true), .mov (.slot 6)⟩,
  ⟨some 73, some (70, true), .idx 2 (.slot 71) (.slot 72)⟩,
  ⟨some 74, some (70, true), .faddr 1 (.slot 73)⟩,
  ⟨some 75, some (70, true), .load false 1 (.slot 74)⟩,
  ⟨some 76, some (70, true), .bin .eql (.slot 75) (.const (.int .i64 2))⟩,
  ⟨some 77, none, .pick (.slot 70) (.slot 76) (.const (.bool false))⟩]
def q19R8 : List AOper := [⟨some 5, none, .mov (.const (.bool true))⟩]
def q19R4 : List AOper := [⟨some 13, none, .mov (.slot 6)⟩,
  ⟨some 14, none, .bin .add (.slot 13) (.const (.int .i64 1))⟩,
  ⟨some 6, none, .mov (.slot 14)⟩]
def c_ref20_List_L0 : ACode := (.seq (.seq (.region q19R3 false [0, 1, 5, 6, 12]) (.cond (.slot 12) .skip (.exit 0))) (.seq (.block 1 (.seq (.seq (.region q19R5 true [0, 1, 5, 6, 62]) (.cond (.slot 62) (.seq (.region q19R6 false [4]) .ret) .skip)) (.seq (.region q19R7 false [0, 1, 5, 6, 77]) (.cond (.slot 77) (.region q19R8 false [0, 1, 5, 6]) .skip)))) (.region q19R4 false [0, 1, 5, 6])))
def lp_ref20_List_0 : ACode := .loop [0, 1, 5, 6] c_ref20_List_L0
def q19R9 : List AOper := [⟨some 78, none, .mov (.slot 5)⟩,
  ⟨some 4, none, .mov (.slot 78)⟩]
def c_ref20_List : AFn := ⟨(.seq (.region q19R0 false [0, 1]) (.seq (.region q19R1 false [0, 1, 5]) (.seq (.seq (.region q19R2 false [0, 1, 5, 6]) (.block 0 lp_ref20_List_0)) (.seq (.region q19R9 false [4]) .ret)))), [.slot 4]⟩
/- oriel/orielref26.May -/
def q24R0 : List AOper := [⟨some 2, none, .mov (.const (.bool false))⟩]
def q24R1 : List AOper := [⟨some 3, none, .mov (.slot 0)⟩,
  ⟨some 4, none, .call .frz n_ref20_List [(.slot 3), (.const (.int .i64 0))]⟩,
  ⟨some 2, none, .mov (.slot 4)⟩]
def c_ref26_May : AFn := ⟨(.seq (.region q24R0 false [0]) (.seq (.region q24R1 false [2]) .ret)), [.slot 2]⟩
/- oriel/orielref27.All -/
def q28R0 : List AOper := [⟨some 1, none, .box 2 (.slot 0)⟩,
  ⟨some 2, none, .mov (.const (.data false 1 [] true))⟩]
def q28R1 : List AOper := [⟨some 3, none, .faddr 0 (.slot 1)⟩,
  ⟨some 4, none, .load false 1 (.slot 3)⟩,
  ⟨some 5, none, .bin .eql (.slot 4) (.const (.int .i64 0))⟩]
def q28R2 : List AOper := [⟨some 2, none, .mov (.const (.data false 1 [] true))⟩]
def q28R3 : List AOper := [⟨some 6, none, .faddr 0 (.slot 1)⟩,
  ⟨some 7, none, .load false 1 (.slot 6)⟩,
  ⟨some 8, none, .mkslice 1 1 [.int .i64 0] [(0, (.slot 7))]⟩,
  ⟨some 9, none, .faddr 1 (.slot 1)⟩,
  ⟨some 10, none, .load false 1 (.slot 9)⟩,
  ⟨some 11, none, .append 1 8 (.slot 8) (.slot 10)⟩,
  ⟨some 2, none, .mov (.slot 11)⟩]
def c_ref27_All : AFn := ⟨(.seq (.region q28R0 false [1]) (.seq (.seq (.region q28R1 false [1, 5]) (.cond (.slot 5) (.seq (.region q28R2 false [2]) .ret) .skip)) (.seq (.region q28R3 false [2]) .ret))), [.slot 2]⟩
/- oriel/orielref27.Has -/
def q31R0 : List AOper := [⟨some 4, none, .mov (.const (.bool false))⟩]
def q31R1 : List AOper := [⟨some 5, none, .mov (.const (.int .i64 0))⟩]
def q31R2 : List AOper := [⟨some 6, none, .mov (.slot 5)⟩,
  ⟨some 7, none, .mov (.slot 0)⟩,
  ⟨some 8, none, .len false (.slot 7)⟩,
  ⟨some 9, none, .bin .lss (.slot 6) (.slot 8)⟩]
def q31R4 : List AOper := [⟨some 12, none, .mov (.slot 0)⟩,
  ⟨some 13, none, .mov (.slot 5)⟩,
  ⟨some 14, none, .idx 1 (.slot 12) (.slot 13)⟩,
  ⟨some 15, none, .load false 1 (.slot 14)⟩,
  ⟨some 16, none, .mov (.slot 1)⟩,
  ⟨some 17, none, .bin .eql (.slot 15) (.slot 16)⟩]
def q31R5 : List AOper := [⟨some 4, none, .mov (.const (.bool true))⟩]
def q31R3 : List AOper := [⟨some 10, none, .mov (.slot 5)⟩,
  ⟨some 11, none, .bin .add (.slot 10) (.const (.int .i64 1))⟩,
  ⟨some 5, none, .mov (.slot 11)⟩]
def c_ref27_Has_L0 : ACode := (.seq (.seq (.region q31R2 false [0, 1, 5, 9]) (.cond (.slot 9) .skip (.exit 0))) (.seq (.block 1 (.seq (.region q31R4 false [0, 1, 5, 17]) (.cond (.slot 17) (.seq (.region q31R5 false [4]) .ret) .skip))) (.region q31R3 false [0, 1, 5])))
def lp_ref27_Has_0 : ACode := .loop [0, 1, 5] c_ref27_Has_L0
def q31R6 : List AOper := [⟨some 4, none, .mov (.const (.bool false))⟩]
def c_ref27_Has : AFn := ⟨(.seq (.region q31R0 false [0, 1]) (.seq (.seq (.region q31R1 false [0, 1, 5]) (.block 0 lp_ref27_Has_0)) (.seq (.region q31R6 false [4]) .ret))), [.slot 4]⟩
/- oriel/orielref27.May -/
def q33R0 : List AOper := [⟨some 1, none, .box 2 (.slot 0)⟩,
  ⟨some 2, none, .mov (.const (.bool false))⟩]
def q33R1 : List AOper := [⟨some 5, none, .faddr 0 (.slot 1)⟩,
  ⟨some 6, none, .load false 1 (.slot 5)⟩,
  ⟨some 7, none, .bin .eql (.slot 6) (.const (.int .i64 0))⟩]
def q33R2 : List AOper := [⟨some 8, none, .faddr 1 (.slot 1)⟩,
  ⟨some 9, none, .load false 1 (.slot 8)⟩,
  ⟨some 10, none, .len false (.slot 9)⟩,
  ⟨some 11, none, .bin .eql (.slot 10) (.const (.int .i64 0))⟩,
  ⟨some 2, none, .mov (.slot 11)⟩]
def q33R3 : List AOper := [⟨some 12, none, .load true 2 (.slot 1)⟩,
  ⟨some 13, none, .call .frz n_ref27_All [(.slot 12)]⟩,
  ⟨some 3, none, .mov (.slot 13)⟩]
def q33R4 : List AOper := [⟨some 4, none, .mov (.const (.int .i64 0))⟩]
def q33R5 : List AOper := [⟨some 14, none, .mov (.slot 4)⟩,
  ⟨some 15, none, .mov (.slot 3)⟩,
  ⟨some 16, none, .len false (.slot 15)⟩,
  ⟨some 17, none, .bin .lss (.slot 14) (.slot 16)⟩]
def q33R7 : List AOper := [⟨some 20, none, .mov (.slot 3)⟩,
  ⟨some 21, none, .mov (.slot 4)⟩,
  ⟨some 22, none, .idx 1 (.slot 20) (.slot 21)⟩,
  ⟨some 23, none, .load false 1 (.slot 22)⟩,
  ⟨some 24, none, .bin .lss (.slot 23) (.const (.int .i64 1))⟩,
  ⟨some 25, none, .mov (.slot 24)⟩,
  ⟨some 26, some (25, false), .mov (.slot 3)⟩,
  ⟨some 27, some (25, false), .mov (.slot 4)⟩,
  ⟨some 28, some (25, false), .idx 1 (.slot 26) (.slot 27)⟩,
  ⟨some 29, some (25, false), .load false 1 (.slot 28)⟩,
  ⟨some 30, some (25, false), .bin .gtr (.slot 29) (.const (.int .i64 8))⟩,
  ⟨some 31, none, .pick (.slot 25) (.const (.bool true)) (.slot 30)⟩,
  ⟨some 32, none, .mov (.slot 31)⟩,
  ⟨some 33, some (32, false), .mov (.slot 3)⟩,
  ⟨some 34, some (32, false), .mov (.slot 4)⟩,
  ⟨some 35, some (32, false), .sl 1 (.slot 33) none (some (.slot 34)) none⟩,
  ⟨some 36, some (32, false), .mov (.slot 3)⟩,
  ⟨some 37, some (32, false), .mov (.slot 4)⟩,
  ⟨some 38, some (32, false), .idx 1 (.slot 36) (.slot 37)⟩,
  ⟨some 39, some (32, false), .load false 1 (.slot 38)⟩,
  ⟨some 40, some (32, false), .call .frz n_ref27_Has [(.slot 35), (.slot 39)]⟩,
  ⟨some 41, none, .pick (.slot 32) (.const (.bool true)) (.slot 40)⟩]
def q33R8 : List AOper := [⟨some 2, none, .mov (.const (.bool false))⟩]
def q33R6 : List AOper := [⟨some 18, none, .mov (.slot 4)⟩,
  ⟨some 19, none, .bin .add (.slot 18) (.const (.int .i64 1))⟩,
  ⟨some 4, none, .mov (.slot 19)⟩]
def c_ref27_May_L0 : ACode := (.seq (.seq (.region q33R5 false [3, 4, 17]) (.cond (.slot 17) .skip (.exit 0))) (.seq (.block 1 (.seq (.region q33R7 true [3, 4, 41]) (.cond (.slot 41) (.seq (.region q33R8 false [2]) .ret) .skip))) (.region q33R6 false [3, 4])))
def lp_ref27_May_0 : ACode := .loop [3, 4] c_ref27_May_L0
def q33R9 : List AOper := [⟨some 2, none, .mov (.const (.bool true))⟩]
def c_ref27_May : AFn := ⟨(.seq (.region q33R0 false [1]) (.seq (.seq (.region q33R1 false [1, 7]) (.cond (.slot 7) (.seq (.region q33R2 false [2]) .ret) .skip)) (.seq (.region q33R3 false [3]) (.seq (.seq (.region q33R4 false [3, 4]) (.block 0 lp_ref27_May_0)) (.seq (.region q33R9 false [2]) .ret))))), [.slot 2]⟩
/- oriel/orielref28.Size -/
def q42R0 : List AOper := [⟨some 2, none, .mov (.const (.int .i64 0))⟩]
def q42R1 : List AOper := [⟨some 3, none, .mov (.const (.int .i64 0))⟩]
def q42R2 : List AOper := [⟨some 4, none, .mov (.const (.int .i64 0))⟩]
def q42R3 : List AOper := [⟨some 5, none, .mov (.slot 4)⟩,
  ⟨some 6, none, .mov (.slot 0)⟩,
  ⟨some 7, none, .len false (.slot 6)⟩,
  ⟨some 8, none, .bin .lss (.slot 5) (.slot 7)⟩]
def q42R5 : List AOper := [⟨some 11, none, .mov (.slot 3)⟩,
  ⟨some 12, none, .mov (.slot 0)⟩,
  ⟨some 13, none, .mov (.slot 4)⟩,
  ⟨some 14, none, .idx 3 (.slot 12) (.slot 13)⟩,
  ⟨some 15, none, .faddr 2 (.slot 14)⟩,
  ⟨some 16, none, .load false 1 (.slot 15)⟩,
  ⟨some 17, none, .len false (.slot 16)⟩,
  ⟨some 18, none, .bin .add (.slot 11) (.slot 17)⟩,
  ⟨some 3, none, .mov (.slot 18)⟩]
def q42R4 : List AOper := [⟨some 9, none, .mov (.slot 4)⟩,
  ⟨some 10, none, .bin .add (.slot 9) (.const (.int .i64 1))⟩,
  ⟨some 4, none, .mov (.slot 10)⟩]
def c_ref28_Size_L0 : ACode := (.seq (.seq (.region q42R3 false [0, 3, 4, 8]) (.cond (.slot 8) .skip (.exit 0))) (.seq (.block 1 (.region q42R5 false [0, 3, 4])) (.region q42R4 false [0, 3, 4])))
def lp_ref28_Size_0 : ACode := .loop [0, 3, 4] c_ref28_Size_L0
def q42R6 : List AOper := [⟨some 19, none, .mov (.slot 3)⟩,
  ⟨some 2, none, .mov (.slot 19)⟩]
def c_ref28_Size : AFn := ⟨(.seq (.region q42R0 false [0]) (.seq (.region q42R1 false [0, 3]) (.seq (.seq (.region q42R2 false [0, 3, 4]) (.block 0 lp_ref28_Size_0)) (.seq (.region q42R6 false [2]) .ret)))), [.slot 2]⟩
/- oriel/orielref28.Piece -/
def q40R0 : List AOper := [⟨some 1, none, .box 3 (.slot 0)⟩,
  ⟨some 2, none, .mov (.const (.bool false))⟩]
def q40R1 : List AOper := ⟨some 3, none, .faddr 0 (.slot 1)⟩ ::
  ⟨some 4, none, .load false 1 (.slot 3)⟩ ::
  ⟨some 5, none, .bin .gtr (.slot 4) (.const (.int .i64 0))⟩ ::
  ⟨some 6, none, .mov (.slot 5)⟩ ::
  ⟨some 7, some (6, true), .faddr 0 (.slot 1)⟩ ::
  ⟨some 8, some (6, true), .load false 1 (.slot 7)⟩ ::
  ⟨some 9, some (6, true), .bin .lss (.slot 8) (.const (.int .i64 9))⟩ ::
  ⟨some 10, none, .pick (.slot 6) (.slot 9) (.const (.bool false))⟩ ::
  ⟨some 11, none, .mov (.slot 10)⟩ ::
  ⟨some 12, some (11, true), .faddr 1 (.slot 1)⟩ ::
  ⟨some 13, some (11, true), .load false 1 (.slot 12)⟩ ::
  ⟨some 14, some (11, true), .bin .gtr (.slot 13) (.const (.int .i64 0))⟩ ::
  ⟨some 15, none, .pick (.slot 11) (.slot 14) (.const (.bool false))⟩ ::
  ⟨some 16, none, .mov (.slot 15)⟩ ::
  ⟨some 17, some (16, true), .faddr 1 (.slot 1)⟩ ::
  ⟨some 18, some (16, true), .load false 1 (.slot 17)⟩ ::
  ⟨some 19, some (16, true), .bin .leq (.slot 18) (.const (.int .i64 1073741824))⟩ ::
  ⟨some 20, none, .pick (.slot 16) (.slot 19) (.const (.bool false))⟩ ::
  ⟨some 21, none, .mov (.slot 20)⟩ ::
  ⟨some 22, some (21, true), .faddr 2 (.slot 1)⟩ ::
  ⟨some 23, some (21, true), .load false 1 (.slot 22)⟩ ::
  ⟨some 24, some (21, true), .len false (.slot 23)⟩ ::
  ⟨some 25, some (21, true), .bin .gtr (.slot 24) (.const (.int .i64 0))⟩ ::
  ⟨some 26, none, .pick (.slot 21) (.slot 25) (.const (.bool false))⟩ ::
  ⟨some 27, none, .mov (.slot 26)⟩ ::
  ⟨some 28, some (27, true), .faddr 2 (.slot 1)⟩ ::
  ⟨some 29, some (27, true), .load false 1 (.slot 28)⟩ ::
  ⟨some 30, some (27, true), .len false (.slot 29)⟩ ::
  ⟨some 31, some (27, true), .bin .lss (.slot 30) (.const (.int .i64 17))⟩ ::
  ⟨some 32, none, .pick (.slot 27) (.slot 31) (.const (.bool false))⟩ ::
  ⟨some 2, none, .mov (.slot 32)⟩ :: []
def c_ref28_Piece : AFn := ⟨(.seq (.region q40R0 false [1]) (.seq (.region q40R1 false [2]) .ret)), [.slot 2]⟩
/- oriel/orielref28.May -/
def q39R0 : List AOper := [⟨some 2, none, .mov (.const (.bool false))⟩]
def q39R1 : List AOper := [⟨some 3, none, .mov (.const (.int .i64 0))⟩]
def q39R2 : List AOper := [⟨some 4, none, .mov (.slot 3)⟩,
  ⟨some 5, none, .mov (.slot 0)⟩,
  ⟨some 6, none, .len false (.slot 5)⟩,
  ⟨some 7, none, .bin .lss (.slot 4) (.slot 6)⟩]
def q39R4 : List AOper := [⟨some 10, none, .mov (.slot 0)⟩,
  ⟨some 11, none, .mov (.slot 3)⟩,
  ⟨some 12, none, .idx 3 (.slot 10) (.slot 11)⟩,
  ⟨some 13, none, .load true 3 (.slot 12)⟩,
  ⟨some 14, none, .call .frz n_ref28_Piece [(.slot 13)]⟩,
  ⟨some 15, none, .not (.slot 14)⟩]
def q39R5 : List AOper := [⟨some 2, none, .mov (.const (.bool false))⟩]
def q39R3 : List AOper := [⟨some 8, none, .mov (.slot 3)⟩,
  ⟨some 9, none, .bin .add (.slot 8) (.const (.int .i64 1))⟩,
  ⟨some 3, none, .mov (.slot 9)⟩]
def c_ref28_May_L0 : ACode := (.seq (.seq (.region q39R2 false [0, 3, 7]) (.cond (.slot 7) .skip (.exit 0))) (.seq (.block 1 (.seq (.region q39R4 false [0, 3, 15]) (.cond (.slot 15) (.seq (.region q39R5 false [2]) .ret) .skip))) (.region q39R3 false [0, 3])))
def lp_ref28_May_0 : ACode := .loop [0, 3] c_ref28_May_L0
def q39R6 : List AOper := [⟨some 16, none, .mov (.slot 0)⟩,
  ⟨some 17, none, .call .frz n_ref28_Size [(.slot 16)]⟩,
  ⟨some 18, none, .bin .leq (.slot 17) (.const (.int .i64 64))⟩,
  ⟨some 2, none, .mov (.slot 18)⟩]
def c_ref28_May : AFn := ⟨(.seq (.region q39R0 false [0]) (.seq (.seq (.region q39R1 false [0, 3]) (.block 0 lp_ref28_May_0)) (.seq (.region q39R6 false [2]) .ret))), [.slot 2]⟩
/- oriel/orielref29.May -/
def q44R0 : List AOper := [⟨some 1, none, .box 18 (.slot 0)⟩,
  ⟨some 2, none, .mov (.const (.bool false))⟩]
def q44R1 : List AOper := [⟨some 3, none, .mov (.const (.int .i64 0))⟩]
def q44R2 : List AOper := [⟨some 6, none, .mov (.slot 3)⟩,
  ⟨some 7, none, .bin .lss (.slot 6) (.const (.int .i64 9))⟩]
def q44R4 : List AOper := [⟨some 10, none, .mov (.slot 3)⟩,
  ⟨some 11, none, .idxarr 2 9 (.slot 1) (.slot 10)⟩,
  ⟨some 12, none, .idxarr 1 2 (.slot 11) (.const (.int .i64 0))⟩,
  ⟨some 13, none, .load false 1 (.slot 12)⟩,
  ⟨some 14, none, .bin .eql (.slot 13) (.const (.int .i64 0))⟩,
  ⟨some 15, none, .mov (.slot 14)⟩,
  ⟨some 16, some (15, true), .mov (.slot 3)⟩,
  ⟨some 17, some (15, true), .idxarr 2 9 (.slot 1) (.slot 16)⟩,
  ⟨some 18, some (15, true), .idxarr 1 2 (.slot 17) (.const (.int .i64 1))⟩,
  ⟨some 19, some (15, true), .load false 1 (.slot 18)⟩,
  ⟨some 20, some (15, true), .bin .eql (.slot 19) (.const (.int .i64 0))⟩,
  ⟨some 21, none, .pick (.slot 15) (.slot 20) (.const (.bool false))⟩,
  ⟨some 4, none, .mov (.slot 21)⟩]
def q44R5 : List AOper := ⟨some 22, none, .mov (.slot 3)⟩ ::
  ⟨some 23, none, .bin .gtr (.slot 22) (.const (.int .i64 0))⟩ ::
  ⟨some 24, none, .mov (.slot 23)⟩ ::
  ⟨some 25, some (24, true), .mov (.slot 3)⟩ ::
  ⟨some 26, some (24, true), .idxarr 2 9 (.slot 1) (.slot 25)⟩ ::
  ⟨some 27, some (24, true), .idxarr 1 2 (.slot 26) (.const (.int .i64 0))⟩ ::
  ⟨some 28, some (24, true), .load false 1 (.slot 27)⟩ ::
  ⟨some 29, some (24, true), .bin .gtr (.slot 28) (.const (.int .i64 0))⟩ ::
  ⟨some 30, none, .pick (.slot 24) (.slot 29) (.const (.bool false))⟩ ::
  ⟨some 31, none, .mov (.slot 30)⟩ ::
  ⟨some 32, some (31, true), .mov (.slot 3)⟩ ::
  ⟨some 33, some (31, true), .idxarr 2 9 (.slot 1) (.slot 32)⟩ ::
  ⟨some 34, some (31, true), .idxarr 1 2 (.slot 33) (.const (.int .i64 0))⟩ ::
  ⟨some 35, some (31, true), .load false 1 (.slot 34)⟩ ::
  ⟨some 36, some (31, true), .bin .leq (.slot 35) (.const (.int .i64 1000))⟩ ::
  ⟨some 37, none, .pick (.slot 31) (.slot 36) (.const (.bool false))⟩ ::
  ⟨some 38, none, .mov (.slot 37)⟩ ::
  ⟨some 39, some (38, true), .mov (.slot 3)⟩ ::
  ⟨some 40, some (38, true), .idxarr 2 9 (.slot 1) (.slot 39)⟩ ::
  ⟨some 41, some (38, true), .idxarr 1 2 (.slot 40) (.const (.int .i64 1))⟩ ::
  ⟨some 42, some (38, true), .load false 1 (.slot 41)⟩ ::
  ⟨some 43, some (38, true), .bin .gtr (.slot 42) (.const (.int .i64 0))⟩ ::
  ⟨some 44, none, .pick (.slot 38) (.slot 43) (.const (.bool false))⟩ ::
  ⟨some 45, none, .mov (.slot 44)⟩ ::
  ⟨some 46, some (45, true), .mov (.slot 3)⟩ ::
  ⟨some 47, some (45, true), .idxarr 2 9 (.slot 1) (.slot 46)⟩ ::
  ⟨some 48, some (45, true), .idxarr 1 2 (.slot 47) (.const (.int .i64 1))⟩ ::
  ⟨some 49, some (45, true), .load false 1 (.slot 48)⟩ ::
  ⟨some 50, some (45, true), .bin .leq (.slot 49) (.const (.int .i64 1000))⟩ ::
  ⟨some 51, none, .pick (.slot 45) (.slot 50) (.const (.bool false))⟩ ::
  ⟨some 5, none, .mov (.slot 51)⟩ :: []
def q44R6 : List AOper := [⟨some 52, none, .mov (.slot 4)⟩,
  ⟨some 53, none, .not (.slot 52)⟩,
  ⟨some 54, none, .mov (.slot 53)⟩,
  ⟨some 55, some (54, true), .mov (.slot 5)⟩,
  ⟨some 56, some (54, true), .not (.slot 55)⟩,
  ⟨some 57, none, .pick (.slot 54) (.slot 56) (.const (.bool false))⟩]
def q44R7 : List AOper := [⟨some 2, none, .mov (.const (.bool false))⟩]
def q44R3 : List AOper := [⟨some 8, none, .mov (.slot 3)⟩,
  ⟨some 9, none, .bin .add (.slot 8) (.const (.int .i64 1))⟩,
  ⟨some 3, none, .mov (.slot 9)⟩]
def c_ref29_May_L0 : ACode := (.seq (.seq (.region q44R2 false [1, 3, 7]) (.cond (.slot 7) .skip (.exit 0))) (.seq (.block 1 (.seq (.region q44R4 false [1, 3, 4]) (.seq (.region q44R5 false [1, 3, 4, 5]) (.seq (.region q44R6 false [1, 3, 57]) (.cond (.slot 57) (.seq (.region q44R7 false [2]) .ret) .skip))))) (.region q44R3 false [1, 3])))
def lp_ref29_May_0 : ACode := .loop [1, 3] c_ref29_May_L0
def q44R8 : List AOper := [⟨some 2, none, .mov (.const (.bool true))⟩]
def c_ref29_May : AFn := ⟨(.seq (.region q44R0 false [1]) (.seq (.seq (.region q44R1 false [1, 3]) (.block 0 lp_ref29_May_0)) (.seq (.region q44R8 false [2]) .ret))), [.slot 2]⟩
/- oriel/orielref26.Role -/
def q25R0 : List AOper := [⟨some 4, none, .mov (.const (.int .i64 0))⟩]
def q25R1 : List AOper := [⟨some 5, none, .mov (.const (.int .i64 0))⟩]
def q25R2 : List AOper := [⟨some 6, none, .mov (.slot 5)⟩,
  ⟨some 7, none, .mov (.slot 0)⟩,
  ⟨some 8, none, .len false (.slot 7)⟩,
  ⟨some 9, none, .bin .lss (.slot 6) (.slot 8)⟩]
def q25R4 : List AOper := [⟨some 12, none, .mov (.slot 0)⟩,
  ⟨some 13, none, .mov (.slot 5)⟩,
  ⟨some 14, none, .idx 2 (.slot 12) (.slot 13)⟩,
  ⟨some 15, none, .faddr 0 (.slot 14)⟩,
  ⟨some 16, none, .load false 1 (.slot 15)⟩,
  ⟨some 17, none, .mov (.slot 1)⟩,
  ⟨some 18, none, .bin .eql (.slot 16) (.slot 17)⟩]
def q25R5 : List AOper := [⟨some 19, none, .mov (.slot 0)⟩,
  ⟨some 20, none, .mov (.slot 5)⟩,
  ⟨some 21, none, .idx 2 (.slot 19) (.slot 20)⟩,
  ⟨some 22, none, .faddr 1 (.slot 21)⟩,
  ⟨some 23, none, .load false 1 (.slot 22)⟩,
  ⟨some 4, none, .mov (.slot 23)⟩]
def q25R3 : List AOper := [⟨some 10, none, .mov (.slot 5)⟩,
  ⟨some 11, none, .bin .add (.slot 10) (.const (.int .i64 1))⟩,
  ⟨some 5, none, .mov (.slot 11)⟩]
def c_ref26_Role_L0 : ACode := (.seq (.seq (.region q25R2 false [0, 1, 5, 9]) (.cond (.slot 9) .skip (.exit 0))) (.seq (.block 1 (.seq (.region q25R4 false [0, 1, 5, 18]) (.cond (.slot 18) (.seq (.region q25R5 false [4]) .ret) .skip))) (.region q25R3 false [0, 1, 5])))
def lp_ref26_Role_0 : ACode := .loop [0, 1, 5] c_ref26_Role_L0
def q25R6 : List AOper := [⟨some 4, none, .mov (.const (.int .i64 0))⟩]
def c_ref26_Role : AFn := ⟨(.seq (.region q25R0 false [0, 1]) (.seq (.seq (.region q25R1 false [0, 1, 5]) (.block 0 lp_ref26_Role_0)) (.seq (.region q25R6 false [4]) .ret))), [.slot 4]⟩
end Go.Proofs.YthcnhibjddomdaaGreat
