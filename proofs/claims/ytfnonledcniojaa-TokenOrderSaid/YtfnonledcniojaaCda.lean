/- The small machine's code of the seat's functions. Conditions: none. -/
import Derived.Test.YtfnonledcniojaaM3
set_option linter.unusedVariables false
set_option linter.unusedSimpArgs false
set_option linter.unusedSectionVars false
namespace Go.Proofs.Ytfnonledcniojaa
open Go

def n_bytes_Clone : Nat := 83
def n_law26_RosterAlone : Nat := 12
def n_law26_RosterAsks : Nat := 10
def n_law26_RosterBack : Nat := 13
def n_law26_RosterEdits : Nat := 11
def n_law26_known : Nat := 42
def n_law27_TokenKeeps : Nat := 9
def n_law27_TokenOrder : Nat := 8
def n_law27_alike : Nat := 41
def n_law27_asked : Nat := 60
def n_law27_known : Nat := 29
def n_law28_MergeBytes : Nat := 4
def n_law28_MergeEdits : Nat := 3
def n_law28_MergeOrder : Nat := 5
def n_law28_MergeParts : Nat := 6
def n_law28_great : Nat := 15
def n_law28_known : Nat := 14
def n_merge_Bytes : Nat := 28
def n_merge_Bytes_1 : Nat := 59
def n_merge_Drop : Nat := 19
def n_merge_Drop_1 : Nat := 58
def n_merge_May : Nat := 20
def n_merge_Pop : Nat := 18
def n_merge_Push : Nat := 17
def n_merge_Size : Nat := 23
def n_merge_copied : Nat := 55
def n_merge_piece : Nat := 56
def n_ref20_List : Nat := 73
def n_ref26_Change : Nat := 53
def n_ref26_Join : Nat := 51
def n_ref26_Leave : Nat := 52
def n_ref26_May : Nat := 43
def n_ref26_Role : Nat := 45
def n_ref26_Same : Nat := 54
def n_ref26_With : Nat := 82
def n_ref27_Same : Nat := 34
def n_ref28_Copy : Nat := 16
def n_ref28_Drop : Nat := 26
def n_ref28_First : Nat := 24
def n_ref28_May : Nat := 21
def n_ref28_Piece : Nat := 27
def n_ref28_Same : Nat := 22
def n_ref28_Size : Nat := 25
def n_roster_Change : Nat := 50
def n_roster_Find : Nat := 44
def n_roster_Join : Nat := 48
def n_roster_Leave : Nat := 49
def n_roster_Leave_1 : Nat := 81
def n_roster_May : Nat := 46
def n_roster_May_1 : Nat := 76
def n_roster_Writers : Nat := 47
def n_roster_place : Nat := 74
def n_roster_place_1 : Nat := 89
def n_roster_role : Nat := 77
def n_slices_BinarySearchFunc_Member_int : Nat := 88
def n_slices_Clone_Member : Nat := 79
def n_slices_Clone_int : Nat := 85
def n_slices_ContainsFunc_Member : Nat := 75
def n_slices_Contains_int : Nat := 67
def n_slices_DeleteFunc_Member : Nat := 80
def n_slices_DeleteFunc_Typed : Nat := 57
def n_slices_DeleteFunc_int : Nat := 69
def n_slices_Delete_int : Nat := 65
def n_slices_IndexFunc_Member : Nat := 90
def n_slices_IndexFunc_Typed : Nat := 84
def n_slices_IndexFunc_int : Nat := 87
def n_slices_Index_int : Nat := 70
def n_slices_Insert_Member : Nat := 78
def n_slices_Reverse_Member : Nat := 94
def n_slices_overlaps_Member : Nat := 91
def n_slices_rotateLeft_Member : Nat := 93
def n_slices_rotateRight_Member : Nat := 92
def n_token_Ask : Nat := 30
def n_token_Ask_1 : Nat := 63
def n_token_Free : Nat := 31
def n_token_Free_1 : Nat := 64
def n_token_Keep : Nat := 32
def n_token_Keep_1 : Nat := 66
def n_token_Keep_2 : Nat := 68
def n_token_May : Nat := 35
def n_token_Place : Nat := 33
def n_token_arbiter_on : Nat := 86
def n_token_change : Nat := 62
def n_token_number : Nat := 61
/- oriel/merge.piece -/
def c_merge_piece_R0 : List AOper := [⟨some 1, none, .box 3 (.slot 0)⟩,
  ⟨some 2, none, .mov (.const (.bool false))⟩]
def c_merge_piece_R1 : List AOper := [⟨some 3, none, .faddr 0 (.slot 1)⟩,
  ⟨some 4, none, .load false 1 (.slot 3)⟩,
  ⟨some 5, none, .bin .geq (.slot 4) (.const (.int .i64 1))⟩,
  ⟨some 6, none, .mov (.slot 5)⟩,
  ⟨some 7, some (6, true), .faddr 0 (.slot 1)⟩,
  ⟨some 8, some (6, true), .load false 1 (.slot 7)⟩,
  ⟨some 9, some (6, true), .bin .leq (.slot 8) (.const (.int .i64 8))⟩,
  ⟨some 10, none, .pick (.slot 6) (.slot 9) (.const (.bool false))⟩,
  ⟨some 11, none, .mov (.slot 10)⟩,
  ⟨some 12, some (11, true), .faddr 1 (.slot 1)⟩,
  ⟨some 13, some (11, true), .load false 1 (.slot 12)⟩,
  ⟨some 14, some (11, true), .bin .geq (.slot 13) (.const (.int .i64 1))⟩,
  ⟨some 15, none, .pick (.slot 11) (.slot 14) (.const (.bool false))⟩,
  ⟨some 16, none, .mov (.slot 15)⟩,
  ⟨some 17, some (16, true), .faddr 1 (.slot 1)⟩,
  ⟨some 18, some (16, true), .load false 1 (.slot 17)⟩,
  ⟨some 19, some (16, true), .bin .leq (.slot 18) (.const (.int .i64 1073741824))⟩,
  ⟨some 20, none, .pick (.slot 16) (.slot 19) (.const (.bool false))⟩,
  ⟨some 21, none, .mov (.slot 20)⟩,
  ⟨some 22, some (21, true), .faddr 2 (.slot 1)⟩,
  ⟨some 23, some (21, true), .load false 1 (.slot 22)⟩,
  ⟨some 24, some (21, true), .len false (.slot 23)⟩,
  ⟨some 25, some (21, true), .bin .geq (.slot 24) (.const (.int .i64 1))⟩,
  ⟨some 26, none, .pick (.slot 21) (.slot 25) (.const (.bool false))⟩,
  ⟨some 27, none, .mov (.slot 26)⟩,
  ⟨some 28, some (27, true), .faddr 2 (.slot 1)⟩,
  ⟨some 29, some (27, true), .load false 1 (.slot 28)⟩,
  ⟨some 30, some (27, true), .len false (.slot 29)⟩,
  ⟨some 31, some (27, true), .bin .leq (.slot 30) (.const (.int .i64 16))⟩,
  ⟨some 32, none, .pick (.slot 27) (.slot 31) (.const (.bool false))⟩,
  ⟨some 2, none, .mov (.slot 32)⟩]
def c_merge_piece : AFn := ⟨(.seq (.region c_merge_piece_R0 false [1]) (.seq (.region c_merge_piece_R1 false [2]) .ret)), [.slot 2]⟩
/- oriel/merge.May -/
def c_merge_May_R0 : List AOper := [⟨some 2, none, .mov (.const (.bool false))⟩]
def c_merge_May_R1 : List AOper := [⟨some 3, none, .mov (.const (.int .i64 0))⟩]
def c_merge_May_R2 : List AOper := [⟨some 6, none, .mov (.slot 0)⟩,
  ⟨some 7, none, .len false (.slot 6)⟩,
  ⟨some 8, none, .mov (.const (.int .i64 0))⟩]
def c_merge_May_R3 : List AOper := [⟨some 9, none, .bin .lss (.slot 8) (.slot 7)⟩]
def c_merge_May_R4 : List AOper := [⟨some 10, none, .idx 3 (.slot 6) (.slot 8)⟩,
  ⟨some 11, none, .load true 3 (.slot 10)⟩,
  ⟨some 5, none, .alloc [.int .i64 0, .int .i64 0, .data false 1 [] true]⟩,
  ⟨none, none, .store true 3 (.slot 5) (.slot 11)⟩]
def c_merge_May_R5 : List AOper := [⟨some 12, none, .mov (.slot 3)⟩,
  ⟨some 13, none, .faddr 2 (.slot 5)⟩,
  ⟨some 14, none, .load false 1 (.slot 13)⟩,
  ⟨some 15, none, .len false (.slot 14)⟩,
  ⟨some 16, none, .bin .add (.slot 12) (.slot 15)⟩,
  ⟨some 3, none, .mov (.slot 16)⟩]
def c_merge_May_R6 : List AOper := [⟨some 17, none, .load true 3 (.slot 5)⟩,
  ⟨some 18, none, .call .frz n_merge_piece [(.slot 17)]⟩,
  ⟨some 19, none, .not (.slot 18)⟩,
  ⟨some 20, none, .mov (.slot 19)⟩,
  ⟨some 21, some (20, false), .mov (.slot 3)⟩,
  ⟨some 22, some (20, false), .bin .gtr (.slot 21) (.const (.int .i64 64))⟩,
  ⟨some 23, none, .pick (.slot 20) (.const (.bool true)) (.slot 22)⟩]
def c_merge_May_R7 : List AOper := [⟨some 2, none, .mov (.const (.bool false))⟩]
def c_merge_May_R8 : List AOper := [⟨some 24, none, .bin .add (.slot 8) (.const (.int .i64 1))⟩,
  ⟨some 8, none, .mov (.slot 24)⟩]
def c_merge_May_L0 : ACode := (.seq (.region c_merge_May_R3 false [3, 6, 7, 8, 9]) (.seq (.cond (.slot 9) .skip (.exit 0)) (.seq (.block 1 (.seq (.region c_merge_May_R4 false [3, 5, 6, 7, 8]) (.seq (.region c_merge_May_R5 false [3, 5, 6, 7, 8]) (.seq (.region c_merge_May_R6 false [3, 6, 7, 8, 23]) (.cond (.slot 23) (.seq (.region c_merge_May_R7 false [2]) .ret) .skip))))) (.region c_merge_May_R8 false [3, 6, 7, 8]))))
def lp_merge_May_0 : ACode := .loop [3, 6, 7, 8] c_merge_May_L0
def c_merge_May_R9 : List AOper := [⟨some 2, none, .mov (.const (.bool true))⟩]
def c_merge_May : AFn := ⟨(.seq (.region c_merge_May_R0 false [0]) (.seq (.region c_merge_May_R1 false [0, 3]) (.seq (.seq (.region c_merge_May_R2 false [3, 6, 7, 8]) (.block 0 lp_merge_May_0)) (.seq (.region c_merge_May_R9 false [2]) .ret)))), [.slot 2]⟩
/- oriel/merge.Bytes'1 -/
def c_merge_Bytes_1_R0 : List AOper := [⟨some 7, none, .load false 1 (.slot 1)⟩,
  ⟨some 8, none, .call .frz n_merge_May [(.slot 7)]⟩,
  ⟨some 9, none, .not (.slot 8)⟩]
def c_merge_Bytes_1_R1 : List AOper := [⟨some 10, none, .load false 1 (.slot 1)⟩,
  ⟨some 11, none, .len false (.slot 10)⟩,
  ⟨some 12, none, .mov (.const (.int .i64 0))⟩]
def c_merge_Bytes_1_R2 : List AOper := [⟨some 13, none, .bin .lss (.slot 12) (.slot 11)⟩]
def c_merge_Bytes_1_R3 : List AOper := [⟨some 14, none, .idx 3 (.slot 10) (.slot 12)⟩,
  ⟨some 15, none, .load true 3 (.slot 14)⟩,
  ⟨some 4, none, .alloc [.int .i64 0, .int .i64 0, .data false 1 [] true]⟩,
  ⟨none, none, .store true 3 (.slot 4) (.slot 15)⟩]
def c_merge_Bytes_1_R4 : List AOper := [⟨some 16, none, .faddr 2 (.slot 4)⟩,
  ⟨some 17, none, .load false 1 (.slot 16)⟩,
  ⟨some 18, none, .len false (.slot 17)⟩,
  ⟨some 19, none, .mov (.const (.int .i64 0))⟩]
def c_merge_Bytes_1_R5 : List AOper := [⟨some 20, none, .bin .lss (.slot 19) (.slot 18)⟩]
def c_merge_Bytes_1_R6 : List AOper := [⟨some 21, none, .idx 1 (.slot 17) (.slot 19)⟩,
  ⟨some 22, none, .load false 1 (.slot 21)⟩,
  ⟨some 6, none, .mov (.slot 22)⟩]
def c_merge_Bytes_1_R7 : List AOper := [⟨some 23, none, .mov (.slot 0)⟩,
  ⟨some 24, none, .faddr 0 (.slot 4)⟩,
  ⟨some 25, none, .load false 1 (.slot 24)⟩,
  ⟨some 26, none, .mov (.slot 6)⟩,
  ⟨some 27, none, .callv (.slot 23) [(.slot 25), (.slot 26)]⟩,
  ⟨some 28, none, .not (.slot 27)⟩]
def c_merge_Bytes_1_R8 : List AOper := [⟨some 29, none, .bin .add (.slot 19) (.const (.int .i64 1))⟩,
  ⟨some 19, none, .mov (.slot 29)⟩]
def c_merge_Bytes_1_L1 : ACode := (.seq (.region c_merge_Bytes_1_R5 false [0, 4, 10, 11, 12, 17, 18, 19, 20]) (.seq (.cond (.slot 20) .skip (.exit 2)) (.seq (.block 3 (.seq (.region c_merge_Bytes_1_R6 false [0, 4, 6, 10, 11, 12, 17, 18, 19]) (.seq (.region c_merge_Bytes_1_R7 false [0, 4, 10, 11, 12, 17, 18, 19, 28]) (.cond (.slot 28) .ret .skip)))) (.region c_merge_Bytes_1_R8 false [0, 4, 10, 11, 12, 17, 18, 19]))))
def lp_merge_Bytes_1_1 : ACode := .loop [0, 4, 10, 11, 12, 17, 18, 19] c_merge_Bytes_1_L1
def c_merge_Bytes_1_R9 : List AOper := [⟨some 30, none, .bin .add (.slot 12) (.const (.int .i64 1))⟩,
  ⟨some 12, none, .mov (.slot 30)⟩]
def c_merge_Bytes_1_L0 : ACode := (.seq (.region c_merge_Bytes_1_R2 false [0, 10, 11, 12, 13]) (.seq (.cond (.slot 13) .skip (.exit 0)) (.seq (.block 1 (.seq (.region c_merge_Bytes_1_R3 false [0, 4, 10, 11, 12]) (.seq (.region c_merge_Bytes_1_R4 false [0, 4, 10, 11, 12, 17, 18, 19]) (.block 2 lp_merge_Bytes_1_1)))) (.region c_merge_Bytes_1_R9 false [0, 10, 11, 12]))))
def lp_merge_Bytes_1_0 : ACode := .loop [0, 10, 11, 12] c_merge_Bytes_1_L0
def c_merge_Bytes_1 : AFn := ⟨(.seq (.seq (.region c_merge_Bytes_1_R0 false [0, 1, 9]) (.cond (.slot 9) .ret .skip)) (.seq (.region c_merge_Bytes_1_R1 false [0, 10, 11, 12]) (.block 0 lp_merge_Bytes_1_0))), []⟩
/- oriel/merge.Bytes -/
def c_merge_Bytes_R0 : List AOper := [⟨some 1, none, .box 1 (.slot 0)⟩,
  ⟨some 2, none, .mov (.const .nilfn)⟩]
def c_merge_Bytes_R1 : List AOper := [⟨some 3, none, .mkfn (.func n_merge_Bytes_1) [] [(.slot 1)]⟩,
  ⟨some 2, none, .mov (.slot 3)⟩]
def c_merge_Bytes : AFn := ⟨(.seq (.region c_merge_Bytes_R0 false [1]) (.seq (.region c_merge_Bytes_R1 false [2]) .ret)), [.slot 2]⟩
/- oriel/merge.Size -/
def c_merge_Size_R0 : List AOper := [⟨some 2, none, .mov (.const (.int .i64 0))⟩]
def c_merge_Size_R1 : List AOper := [⟨some 3, none, .alloc [.int .i64 0]⟩,
  ⟨none, none, .store false 1 (.slot 3) (.const (.int .i64 0))⟩]
def c_merge_Size_R2 : List AOper := [⟨some 4, none, .mov (.slot 0)⟩,
  ⟨some 5, none, .call .frz n_merge_Bytes [(.slot 4)]⟩]
def c_merge_Size_R4 : List AOper := [⟨some 10, none, .load false 1 (.slot 3)⟩,
  ⟨some 2, none, .mov (.slot 10)⟩]
def c_merge_Size : AFn := ⟨(.seq (.region c_merge_Size_R0 false [0]) (.seq (.region c_merge_Size_R1 false [0]) (.seq (.seq (.region c_merge_Size_R2 false []) (.block 0 .dead)) (.seq (.region c_merge_Size_R4 false [2]) .ret)))), [.slot 2]⟩
/- bytes.Clone -/
def c_bytes_Clone_R0 : List AOper := [⟨some 2, none, .mov (.const (.data false 1 [] true))⟩]
def c_bytes_Clone_R1 : List AOper := [⟨some 3, none, .mov (.slot 0)⟩,
  ⟨some 4, none, .isnil .ks false (.slot 3)⟩]
def c_bytes_Clone_R2 : List AOper := [⟨some 2, none, .mov (.const (.data false 1 [] true))⟩]
def c_bytes_Clone_R3 : List AOper := [⟨some 5, none, .mkslice 1 0 [.int .u8 0] []⟩,
  ⟨some 6, none, .mov (.slot 0)⟩,
  ⟨some 7, none, .append 1 1 (.slot 5) (.slot 6)⟩,
  ⟨some 2, none, .mov (.slot 7)⟩]
def c_bytes_Clone : AFn := ⟨(.seq (.region c_bytes_Clone_R0 false [0]) (.seq (.seq (.region c_bytes_Clone_R1 false [0, 4]) (.cond (.slot 4) (.seq (.region c_bytes_Clone_R2 false [2]) .ret) .skip)) (.seq (.region c_bytes_Clone_R3 false [2]) .ret))), [.slot 2]⟩
/- oriel/merge.copied -/
def c_merge_copied_R0 : List AOper := [⟨some 2, none, .mov (.const (.data false 3 [] true))⟩]
def c_merge_copied_R1 : List AOper := [⟨some 3, none, .mknil 3⟩]
def c_merge_copied_R2 : List AOper := [⟨some 6, none, .mov (.slot 0)⟩,
  ⟨some 7, none, .len false (.slot 6)⟩,
  ⟨some 8, none, .mov (.const (.int .i64 0))⟩]
def c_merge_copied_R3 : List AOper := [⟨some 9, none, .bin .lss (.slot 8) (.slot 7)⟩]
def c_merge_copied_R4 : List AOper := [⟨some 10, none, .idx 3 (.slot 6) (.slot 8)⟩,
  ⟨some 11, none, .load true 3 (.slot 10)⟩,
  ⟨some 5, none, .alloc [.int .i64 0, .int .i64 0, .data false 1 [] true]⟩,
  ⟨none, none, .store true 3 (.slot 5) (.slot 11)⟩]
def c_merge_copied_R5 : List AOper := [⟨some 12, none, .faddr 2 (.slot 5)⟩,
  ⟨some 13, none, .load false 1 (.slot 12)⟩,
  ⟨some 14, none, .call .frz n_bytes_Clone [(.slot 13)]⟩,
  ⟨some 15, none, .faddr 2 (.slot 5)⟩,
  ⟨none, none, .store false 1 (.slot 15) (.slot 14)⟩]
def c_merge_copied_R6 : List AOper := [⟨some 16, none, .mov (.slot 3)⟩,
  ⟨some 17, none, .load true 3 (.slot 5)⟩,
  ⟨some 18, none, .mkslice 3 1 [.int .i64 0, .int .i64 0, .data false 1 [] true] [(0, (.slot 17))]⟩,
  ⟨some 19, none, .append 3 40 (.slot 16) (.slot 18)⟩,
  ⟨some 3, none, .mov (.slot 19)⟩]
def c_merge_copied_R7 : List AOper := [⟨some 20, none, .bin .add (.slot 8) (.const (.int .i64 1))⟩,
  ⟨some 8, none, .mov (.slot 20)⟩]
def c_merge_copied_L0 : ACode := (.seq (.region c_merge_copied_R3 false [3, 6, 7, 8, 9]) (.seq (.cond (.slot 9) .skip (.exit 0)) (.seq (.block 1 (.seq (.region c_merge_copied_R4 false [3, 5, 6, 7, 8]) (.seq (.region c_merge_copied_R5 false [3, 5, 6, 7, 8]) (.region c_merge_copied_R6 false [3, 6, 7, 8])))) (.region c_merge_copied_R7 false [3, 6, 7, 8]))))
def lp_merge_copied_0 : ACode := .loop [3, 6, 7, 8] c_merge_copied_L0
def c_merge_copied_R8 : List AOper := [⟨some 21, none, .mov (.slot 3)⟩,
  ⟨some 2, none, .mov (.slot 21)⟩]
def c_merge_copied : AFn := ⟨(.seq (.region c_merge_copied_R0 false [0]) (.seq (.region c_merge_copied_R1 false [0, 3]) (.seq (.seq (.region c_merge_copied_R2 false [3, 6, 7, 8]) (.block 0 lp_merge_copied_0)) (.seq (.region c_merge_copied_R8 false [2]) .ret)))), [.slot 2]⟩
/- oriel/merge.Push -/
def c_merge_Push_R0 : List AOper := [⟨some 3, none, .box 3 (.slot 1)⟩,
  ⟨some 4, none, .mov (.const (.data false 3 [] true))⟩,
  ⟨some 5, none, .mov (.const (.bool false))⟩]
def c_merge_Push_R1 : List AOper := [⟨some 7, none, .mov (.slot 0)⟩,
  ⟨some 8, none, .call .frz n_merge_May [(.slot 7)]⟩,
  ⟨some 9, none, .not (.slot 8)⟩]
def c_merge_Push_R2 : List AOper := [⟨some 4, none, .mov (.const (.data false 3 [] true))⟩,
  ⟨some 5, none, .mov (.const (.bool false))⟩]
def c_merge_Push_R3 : List AOper := [⟨some 10, none, .mov (.slot 0)⟩,
  ⟨some 11, none, .call .frz n_merge_copied [(.slot 10)]⟩,
  ⟨some 6, none, .mov (.slot 11)⟩]
def c_merge_Push_R4 : List AOper := [⟨some 12, none, .load true 3 (.slot 3)⟩,
  ⟨some 13, none, .call .frz n_merge_piece [(.slot 12)]⟩,
  ⟨some 14, none, .not (.slot 13)⟩,
  ⟨some 15, none, .mov (.slot 14)⟩,
  ⟨some 16, some (15, false), .mov (.slot 0)⟩,
  ⟨some 17, some (15, false), .call .frz n_merge_Size [(.slot 16)]⟩,
  ⟨some 18, some (15, false), .faddr 2 (.slot 3)⟩,
  ⟨some 19, some (15, false), .load false 1 (.slot 18)⟩,
  ⟨some 20, some (15, false), .len false (.slot 19)⟩,
  ⟨some 21, some (15, false), .bin .add (.slot 17) (.slot 20)⟩,
  ⟨some 22, some (15, false), .bin .gtr (.slot 21) (.const (.int .i64 64))⟩,
  ⟨some 23, none, .pick (.slot 15) (.const (.bool true)) (.slot 22)⟩]
def c_merge_Push_R5 : List AOper := [⟨some 24, none, .mov (.slot 6)⟩,
  ⟨some 4, none, .mov (.slot 24)⟩,
  ⟨some 5, none, .mov (.const (.bool false))⟩]
def c_merge_Push_R6 : List AOper := [⟨some 25, none, .mov (.slot 6)⟩,
  ⟨some 26, none, .load true 3 (.slot 3)⟩,
  ⟨some 27, none, .mkslice 3 1 [.int .i64 0, .int .i64 0, .data false 1 [] true] [(0, (.slot 26))]⟩,
  ⟨some 28, none, .call .frz n_merge_copied [(.slot 27)]⟩,
  ⟨some 29, none, .append 3 40 (.slot 25) (.slot 28)⟩,
  ⟨some 4, none, .mov (.slot 29)⟩,
  ⟨some 5, none, .mov (.const (.bool true))⟩]
def c_merge_Push : AFn := ⟨(.seq (.region c_merge_Push_R0 false [0, 3]) (.seq (.seq (.region c_merge_Push_R1 false [0, 3, 9]) (.cond (.slot 9) (.seq (.region c_merge_Push_R2 false [4, 5]) .ret) .skip)) (.seq (.region c_merge_Push_R3 false [0, 3, 6]) (.seq (.seq (.region c_merge_Push_R4 true [3, 6, 23]) (.cond (.slot 23) (.seq (.region c_merge_Push_R5 false [4, 5]) .ret) .skip)) (.seq (.region c_merge_Push_R6 false [4, 5]) .ret))))), [.slot 4, .slot 5]⟩
/- oriel/merge.Pop -/
def c_merge_Pop_R0 : List AOper := [⟨some 4, none, .mov (.const (.data false 3 [] true))⟩,
  ⟨some 5, none, .mov (.const (.data false 3 [] true))⟩]
def c_merge_Pop_R1 : List AOper := [⟨some 7, none, .mov (.slot 0)⟩,
  ⟨some 8, none, .call .frz n_merge_May [(.slot 7)]⟩,
  ⟨some 9, none, .not (.slot 8)⟩]
def c_merge_Pop_R2 : List AOper := [⟨some 4, none, .mov (.const (.data false 3 [] true))⟩,
  ⟨some 5, none, .mov (.const (.data false 3 [] true))⟩]
def c_merge_Pop_R3 : List AOper := [⟨some 6, none, .mov (.const (.int .i64 0))⟩]
def c_merge_Pop_R4 : List AOper := [⟨some 10, none, .mov (.slot 6)⟩,
  ⟨some 11, none, .mov (.slot 0)⟩,
  ⟨some 12, none, .len false (.slot 11)⟩,
  ⟨some 13, none, .bin .lss (.slot 10) (.slot 12)⟩,
  ⟨some 14, none, .mov (.slot 13)⟩,
  ⟨some 15, some (14, true), .mov (.slot 0)⟩,
  ⟨some 16, some (14, true), .mov (.slot 6)⟩,
  ⟨some 17, some (14, true), .idx 3 (.slot 15) (.slot 16)⟩,
  ⟨some 18, some (14, true), .faddr 2 (.slot 17)⟩,
  ⟨some 19, some (14, true), .load false 1 (.slot 18)⟩,
  ⟨some 20, some (14, true), .len false (.slot 19)⟩,
  ⟨some 21, some (14, true), .mov (.slot 1)⟩,
  ⟨some 22, some (14, true), .bin .leq (.slot 20) (.slot 21)⟩,
  ⟨some 23, none, .pick (.slot 14) (.slot 22) (.const (.bool false))⟩]
def c_merge_Pop_R5 : List AOper := [⟨some 24, none, .mov (.slot 1)⟩,
  ⟨some 25, none, .mov (.slot 0)⟩,
  ⟨some 26, none, .mov (.slot 6)⟩,
  ⟨some 27, none, .idx 3 (.slot 25) (.slot 26)⟩,
  ⟨some 28, none, .faddr 2 (.slot 27)⟩,
  ⟨some 29, none, .load false 1 (.slot 28)⟩,
  ⟨some 30, none, .len false (.slot 29)⟩,
  ⟨some 31, none, .bin .sub (.slot 24) (.slot 30)⟩,
  ⟨some 1, none, .mov (.slot 31)⟩]
def c_merge_Pop_R6 : List AOper := [⟨some 32, none, .mov (.slot 6)⟩,
  ⟨some 33, none, .bin .add (.slot 32) (.const (.int .i64 1))⟩,
  ⟨some 6, none, .mov (.slot 33)⟩]
def c_merge_Pop_L0 : ACode := (.seq (.seq (.region c_merge_Pop_R4 false [0, 1, 6, 23]) (.cond (.slot 23) .skip (.exit 0))) (.block 1 (.seq (.region c_merge_Pop_R5 false [0, 1, 6]) (.region c_merge_Pop_R6 false [0, 1, 6]))))
def lp_merge_Pop_0 : ACode := .loop [0, 1, 6] c_merge_Pop_L0
def c_merge_Pop_R7 : List AOper := [⟨some 34, none, .mov (.slot 0)⟩,
  ⟨some 35, none, .mov (.slot 6)⟩,
  ⟨some 36, none, .mov (.slot 0)⟩,
  ⟨some 37, none, .len false (.slot 36)⟩,
  ⟨some 38, none, .mov (.slot 0)⟩,
  ⟨some 39, none, .len false (.slot 38)⟩,
  ⟨some 40, none, .sl 3 (.slot 34) (some (.slot 35)) (some (.slot 37)) (some (.slot 39))⟩,
  ⟨some 41, none, .call .frz n_merge_copied [(.slot 40)]⟩,
  ⟨some 42, none, .mov (.slot 0)⟩,
  ⟨some 43, none, .mov (.slot 6)⟩,
  ⟨some 44, none, .mov (.slot 6)⟩,
  ⟨some 45, none, .sl 3 (.slot 42) none (some (.slot 43)) (some (.slot 44))⟩,
  ⟨some 46, none, .call .frz n_merge_copied [(.slot 45)]⟩,
  ⟨some 4, none, .mov (.slot 41)⟩,
  ⟨some 5, none, .mov (.slot 46)⟩]
def c_merge_Pop : AFn := ⟨(.seq (.region c_merge_Pop_R0 false [0, 1]) (.seq (.seq (.region c_merge_Pop_R1 false [0, 1, 9]) (.cond (.slot 9) (.seq (.region c_merge_Pop_R2 false [4, 5]) .ret) .skip)) (.seq (.region c_merge_Pop_R3 false [0, 1, 6]) (.seq (.block 0 lp_merge_Pop_0) (.seq (.region c_merge_Pop_R7 true [4, 5]) .ret))))), [.slot 4, .slot 5]⟩
/- slices.IndexFunc[[]oriel/api.Typed,oriel/api.Typed] -/
def c_slices_IndexFunc_Typed_R0 : List AOper := [⟨some 4, none, .mov (.const (.int .i64 0))⟩]
def c_slices_IndexFunc_Typed_R1 : List AOper := [⟨some 6, none, .mov (.slot 0)⟩,
  ⟨some 7, none, .len false (.slot 6)⟩,
  ⟨some 8, none, .mov (.const (.int .i64 0))⟩]
def c_slices_IndexFunc_Typed_R2 : List AOper := [⟨some 9, none, .bin .lss (.slot 8) (.slot 7)⟩]
def c_slices_IndexFunc_Typed_R3 : List AOper := [⟨some 10, none, .mov (.slot 8)⟩,
  ⟨some 5, none, .mov (.slot 10)⟩]
def c_slices_IndexFunc_Typed_R4 : List AOper := [⟨some 11, none, .mov (.slot 1)⟩,
  ⟨some 12, none, .mov (.slot 0)⟩,
  ⟨some 13, none, .mov (.slot 5)⟩,
  ⟨some 14, none, .idx 3 (.slot 12) (.slot 13)⟩,
  ⟨some 15, none, .load true 3 (.slot 14)⟩,
  ⟨some 16, none, .callv (.slot 11) [(.slot 15)]⟩]
def c_slices_IndexFunc_Typed_R5 : List AOper := [⟨some 17, none, .mov (.slot 5)⟩,
  ⟨some 4, none, .mov (.slot 17)⟩]
def c_slices_IndexFunc_Typed_R6 : List AOper := [⟨some 18, none, .bin .add (.slot 8) (.const (.int .i64 1))⟩,
  ⟨some 8, none, .mov (.slot 18)⟩]
def c_slices_IndexFunc_Typed_L0 : ACode := (.seq (.region c_slices_IndexFunc_Typed_R2 false [0, 1, 7, 8, 9]) (.seq (.cond (.slot 9) .skip (.exit 0)) (.seq (.block 1 (.seq (.region c_slices_IndexFunc_Typed_R3 false [0, 1, 5, 7, 8]) (.seq (.region c_slices_IndexFunc_Typed_R4 false [0, 1, 5, 7, 8, 16]) (.cond (.slot 16) (.seq (.region c_slices_IndexFunc_Typed_R5 false [4]) .ret) .skip)))) (.region c_slices_IndexFunc_Typed_R6 false [0, 1, 7, 8]))))
def lp_slices_IndexFunc_Typed_0 : ACode := .loop [0, 1, 7, 8] c_slices_IndexFunc_Typed_L0
def c_slices_IndexFunc_Typed_R7 : List AOper := [⟨some 4, none, .mov (.const (.int .i64 (-1)))⟩]
def c_slices_IndexFunc_Typed : AFn := ⟨(.seq (.region c_slices_IndexFunc_Typed_R0 false [0, 1]) (.seq (.seq (.region c_slices_IndexFunc_Typed_R1 false [0, 1, 7, 8]) (.block 0 lp_slices_IndexFunc_Typed_0)) (.seq (.region c_slices_IndexFunc_Typed_R7 false [4]) .ret))), [.slot 4]⟩
/- slices.DeleteFunc[[]oriel/api.Typed,oriel/api.Typed] -/
def c_slices_DeleteFunc_Typed_R0 : List AOper := [⟨some 4, none, .mov (.const (.data false 3 [] true))⟩]
def c_slices_DeleteFunc_Typed_R1 : List AOper := [⟨some 8, none, .mov (.slot 0)⟩,
  ⟨some 9, none, .mov (.slot 1)⟩,
  ⟨some 10, none, .call .inl n_slices_IndexFunc_Typed [(.slot 8), (.slot 9)]⟩,
  ⟨some 5, none, .mov (.slot 10)⟩]
def c_slices_DeleteFunc_Typed_R2 : List AOper := [⟨some 11, none, .mov (.slot 5)⟩,
  ⟨some 12, none, .bin .eql (.slot 11) (.const (.int .i64 (-1)))⟩]
def c_slices_DeleteFunc_Typed_R3 : List AOper := [⟨some 13, none, .mov (.slot 0)⟩,
  ⟨some 4, none, .mov (.slot 13)⟩]
def c_slices_DeleteFunc_Typed_R4 : List AOper := [⟨some 14, none, .mov (.slot 5)⟩,
  ⟨some 15, none, .bin .add (.slot 14) (.const (.int .i64 1))⟩,
  ⟨some 6, none, .mov (.slot 15)⟩]
def c_slices_DeleteFunc_Typed_R5 : List AOper := [⟨some 16, none, .mov (.slot 6)⟩,
  ⟨some 17, none, .mov (.slot 0)⟩,
  ⟨some 18, none, .len false (.slot 17)⟩,
  ⟨some 19, none, .bin .lss (.slot 16) (.slot 18)⟩]
def c_slices_DeleteFunc_Typed_R7 : List AOper := [⟨some 22, none, .mov (.slot 0)⟩,
  ⟨some 23, none, .mov (.slot 6)⟩,
  ⟨some 24, none, .idx 3 (.slot 22) (.slot 23)⟩,
  ⟨some 25, none, .load true 3 (.slot 24)⟩,
  ⟨some 7, none, .alloc [.int .i64 0, .int .i64 0, .data false 1 [] true]⟩,
  ⟨none, none, .store true 3 (.slot 7) (.slot 25)⟩]
def c_slices_DeleteFunc_Typed_R8 : List AOper := [⟨some 26, none, .mov (.slot 1)⟩,
  ⟨some 27, none, .load true 3 (.slot 7)⟩,
  ⟨some 28, none, .callv (.slot 26) [(.slot 27)]⟩,
  ⟨some 29, none, .not (.slot 28)⟩]
def c_slices_DeleteFunc_Typed_R9 : List AOper := [⟨some 30, none, .mov (.slot 0)⟩,
  ⟨some 31, none, .mov (.slot 5)⟩,
  ⟨some 32, none, .load true 3 (.slot 7)⟩,
  ⟨some 33, none, .idx 3 (.slot 30) (.slot 31)⟩,
  ⟨none, none, .store true 3 (.slot 33) (.slot 32)⟩]
def c_slices_DeleteFunc_Typed_R10 : List AOper := [⟨some 34, none, .mov (.slot 5)⟩,
  ⟨some 35, none, .bin .add (.slot 34) (.const (.int .i64 1))⟩,
  ⟨some 5, none, .mov (.slot 35)⟩]
def c_slices_DeleteFunc_Typed_R6 : List AOper := [⟨some 20, none, .mov (.slot 6)⟩,
  ⟨some 21, none, .bin .add (.slot 20) (.const (.int .i64 1))⟩,
  ⟨some 6, none, .mov (.slot 21)⟩]
def c_slices_DeleteFunc_Typed_L0 : ACode := (.seq (.seq (.region c_slices_DeleteFunc_Typed_R5 false [0, 1, 5, 6, 19]) (.cond (.slot 19) .skip (.exit 0))) (.seq (.block 1 (.seq (.region c_slices_DeleteFunc_Typed_R7 false [0, 1, 5, 6, 7]) (.seq (.region c_slices_DeleteFunc_Typed_R8 false [0, 1, 5, 6, 7, 29]) (.cond (.slot 29) (.seq (.region c_slices_DeleteFunc_Typed_R9 false [0, 1, 5, 6]) (.region c_slices_DeleteFunc_Typed_R10 false [0, 1, 5, 6])) .skip)))) (.region c_slices_DeleteFunc_Typed_R6 false [0, 1, 5, 6])))
def lp_slices_DeleteFunc_Typed_0 : ACode := .loop [0, 1, 5, 6] c_slices_DeleteFunc_Typed_L0
def c_slices_DeleteFunc_Typed_R11 : List AOper := [⟨some 36, none, .mov (.slot 0)⟩,
  ⟨some 37, none, .mov (.slot 5)⟩,
  ⟨some 38, none, .sl 3 (.slot 36) (some (.slot 37)) none none⟩,
  ⟨none, none, .clear [.int .i64 0, .int .i64 0, .data false 1 [] true] (.slot 38)⟩]
def c_slices_DeleteFunc_Typed_R12 : List AOper := [⟨some 39, none, .mov (.slot 0)⟩,
  ⟨some 40, none, .mov (.slot 5)⟩,
  ⟨some 41, none, .sl 3 (.slot 39) none (some (.slot 40)) none⟩,
  ⟨some 4, none, .mov (.slot 41)⟩]
def c_slices_DeleteFunc_Typed : AFn := ⟨(.seq (.region c_slices_DeleteFunc_Typed_R0 false [0, 1]) (.seq (.region c_slices_DeleteFunc_Typed_R1 false [0, 1, 5]) (.seq (.seq (.region c_slices_DeleteFunc_Typed_R2 false [0, 1, 5, 12]) (.cond (.slot 12) (.seq (.region c_slices_DeleteFunc_Typed_R3 false [4]) .ret) .skip)) (.seq (.seq (.region c_slices_DeleteFunc_Typed_R4 false [0, 1, 5, 6]) (.block 0 lp_slices_DeleteFunc_Typed_0)) (.seq (.region c_slices_DeleteFunc_Typed_R11 false [0, 5]) (.seq (.region c_slices_DeleteFunc_Typed_R12 false [4]) .ret)))))), [.slot 4]⟩
/- oriel/merge.Drop'1 -/
def c_merge_Drop_1_R0 : List AOper := [⟨some 2, none, .box 3 (.slot 0)⟩,
  ⟨some 3, none, .mov (.const (.bool false))⟩]
def c_merge_Drop_1_R1 : List AOper := [⟨some 4, none, .faddr 0 (.slot 2)⟩,
  ⟨some 5, none, .load false 1 (.slot 4)⟩,
  ⟨some 6, none, .load false 1 (.slot 1)⟩,
  ⟨some 7, none, .bin .eql (.slot 5) (.slot 6)⟩,
  ⟨some 3, none, .mov (.slot 7)⟩]
def c_merge_Drop_1 : AFn := ⟨(.seq (.region c_merge_Drop_1_R0 false [1, 2]) (.seq (.region c_merge_Drop_1_R1 false [3]) .ret)), [.slot 3]⟩
/- oriel/merge.Drop -/
def c_merge_Drop_R0 : List AOper := [⟨some 3, none, .box 1 (.slot 1)⟩,
  ⟨some 4, none, .mov (.const (.data false 3 [] true))⟩]
def c_merge_Drop_R1 : List AOper := [⟨some 5, none, .mov (.slot 0)⟩,
  ⟨some 6, none, .call .frz n_merge_May [(.slot 5)]⟩,
  ⟨some 7, none, .not (.slot 6)⟩]
def c_merge_Drop_R2 : List AOper := [⟨some 4, none, .mov (.const (.data false 3 [] true))⟩]
def c_merge_Drop_R3 : List AOper := [⟨some 8, none, .mov (.slot 0)⟩,
  ⟨some 9, none, .call .frz n_merge_copied [(.slot 8)]⟩,
  ⟨some 10, none, .mkfn (.func n_merge_Drop_1) [] [(.slot 3)]⟩,
  ⟨some 11, none, .call .inl n_slices_DeleteFunc_Typed [(.slot 9), (.slot 10)]⟩,
  ⟨some 4, none, .mov (.slot 11)⟩]
def c_merge_Drop : AFn := ⟨(.seq (.region c_merge_Drop_R0 false [0, 3]) (.seq (.seq (.region c_merge_Drop_R1 false [0, 3, 7]) (.cond (.slot 7) (.seq (.region c_merge_Drop_R2 false [4]) .ret) .skip)) (.seq (.region c_merge_Drop_R3 false [4]) .ret))), [.slot 4]⟩
/- oriel/oriellaw28.known -/
def c_law28_known_R0 : List AOper := [⟨some 0, none, .mov (.const (.bool false))⟩]
def c_law28_known_R1 : List AOper := [⟨some 7, none, .mkslice 1 2 [.int .u8 0] [(0, (.const (.int .u8 97))), (1, (.const (.int .u8 98)))]⟩,
  ⟨some 8, none, .mark (.slot 7)⟩,
  ⟨some 9, none, .build [.int .i64 0, .int .i64 0, .data false 1 [] true] [(0, 1, (.const (.int .i64 3))), (1, 1, (.const (.int .i64 1))), (2, 1, (.slot 8))]⟩,
  ⟨some 10, none, .call .frz n_merge_Push [(.const (.data false 3 [] true)), (.slot 9)]⟩,
  ⟨some 6, none, .mov (.slot 10)⟩,
  ⟨some 11, none, .extract 0 (.slot 6)⟩,
  ⟨some 12, none, .extract 1 (.slot 6)⟩,
  ⟨some 1, none, .mov (.slot 11)⟩,
  ⟨some 2, none, .mov (.slot 12)⟩]
def c_law28_known_R2 : List AOper := [⟨some 14, none, .mov (.slot 1)⟩,
  ⟨some 15, none, .mkslice 1 1 [.int .u8 0] [(0, (.const (.int .u8 99)))]⟩,
  ⟨some 16, none, .mark (.slot 15)⟩,
  ⟨some 17, none, .build [.int .i64 0, .int .i64 0, .data false 1 [] true] [(0, 1, (.const (.int .i64 5))), (1, 1, (.const (.int .i64 1))), (2, 1, (.slot 16))]⟩,
  ⟨some 18, none, .call .frz n_merge_Push [(.slot 14), (.slot 17)]⟩,
  ⟨some 13, none, .mov (.slot 18)⟩,
  ⟨some 19, none, .extract 0 (.slot 13)⟩,
  ⟨some 20, none, .extract 1 (.slot 13)⟩,
  ⟨some 1, none, .mov (.slot 19)⟩,
  ⟨some 3, none, .mov (.slot 20)⟩]
def c_law28_known_R3 : List AOper := [⟨some 22, none, .mov (.slot 1)⟩,
  ⟨some 23, none, .call .frz n_merge_Pop [(.slot 22), (.const (.int .i64 2))]⟩,
  ⟨some 21, none, .mov (.slot 23)⟩,
  ⟨some 24, none, .extract 0 (.slot 21)⟩,
  ⟨some 25, none, .extract 1 (.slot 21)⟩,
  ⟨some 4, none, .mov (.slot 24)⟩,
  ⟨some 5, none, .mov (.slot 25)⟩]
def c_law28_known_R4 : List AOper := [⟨some 26, none, .mov (.slot 2)⟩,
  ⟨some 27, none, .mov (.slot 26)⟩,
  ⟨some 28, some (27, true), .mov (.slot 3)⟩,
  ⟨some 29, none, .pick (.slot 27) (.slot 28) (.const (.bool false))⟩,
  ⟨some 30, none, .mov (.slot 29)⟩,
  ⟨some 31, some (30, true), .mov (.slot 1)⟩,
  ⟨some 32, some (30, true), .call .frz n_merge_Size [(.slot 31)]⟩,
  ⟨some 33, some (30, true), .bin .eql (.slot 32) (.const (.int .i64 3))⟩,
  ⟨some 34, none, .pick (.slot 30) (.slot 33) (.const (.bool false))⟩,
  ⟨some 35, none, .mov (.slot 34)⟩,
  ⟨some 36, some (35, true), .mov (.slot 4)⟩,
  ⟨some 37, some (35, true), .len false (.slot 36)⟩,
  ⟨some 38, some (35, true), .bin .eql (.slot 37) (.const (.int .i64 1))⟩,
  ⟨some 39, none, .pick (.slot 35) (.slot 38) (.const (.bool false))⟩,
  ⟨some 40, none, .mov (.slot 39)⟩,
  ⟨some 41, some (40, true), .mov (.slot 5)⟩,
  ⟨some 42, some (40, true), .len false (.slot 41)⟩,
  ⟨some 43, some (40, true), .bin .eql (.slot 42) (.const (.int .i64 1))⟩,
  ⟨some 44, none, .pick (.slot 40) (.slot 43) (.const (.bool false))⟩,
  ⟨some 45, none, .mov (.slot 44)⟩,
  ⟨some 46, some (45, true), .mov (.slot 5)⟩,
  ⟨some 47, some (45, true), .idx 3 (.slot 46) (.const (.int .i64 0))⟩,
  ⟨some 48, some (45, true), .faddr 2 (.slot 47)⟩,
  ⟨some 49, some (45, true), .load false 1 (.slot 48)⟩,
  ⟨some 50, some (45, true), .bstr (.slot 49)⟩,
  ⟨some 51, some (45, true), .eq false [.ks] false (.slot 50) (.const (.str ⟨#[97, 98]⟩))⟩,
  ⟨some 52, none, .pick (.slot 45) (.slot 51) (.const (.bool false))⟩,
  ⟨some 53, none, .mov (.slot 52)⟩,
  ⟨some 54, some (53, true), .mov (.slot 1)⟩,
  ⟨some 55, some (53, true), .call .frz n_merge_Drop [(.slot 54), (.const (.int .i64 3))]⟩,
  ⟨some 56, some (53, true), .len false (.slot 55)⟩,
  ⟨some 57, some (53, true), .bin .eql (.slot 56) (.const (.int .i64 1))⟩,
  ⟨some 58, none, .pick (.slot 53) (.slot 57) (.const (.bool false))⟩,
  ⟨some 0, none, .mov (.slot 58)⟩]
def c_law28_known : AFn := ⟨(.seq (.region c_law28_known_R0 false []) (.seq (.region c_law28_known_R1 false [1, 2]) (.seq (.region c_law28_known_R2 false [1, 2, 3]) (.seq (.region c_law28_known_R3 false [1, 2, 3, 4, 5]) (.seq (.region c_law28_known_R4 false [0]) .ret))))), [.slot 0]⟩
/- oriel/oriellaw28.great -/
def c_law28_great_R0 : List AOper := [⟨some 2, none, .mov (.const (.bool false))⟩]
def c_law28_great_R1 : List AOper := [⟨some 4, none, .mov (.slot 0)⟩,
  ⟨some 5, none, .len false (.slot 4)⟩,
  ⟨some 6, none, .bin .gtr (.slot 5) (.const (.int .i64 100))⟩]
def c_law28_great_R2 : List AOper := [⟨some 2, none, .mov (.const (.bool true))⟩]
def c_law28_great_R3 : List AOper := [⟨some 3, none, .mov (.const (.int .i64 0))⟩]
def c_law28_great_R4 : List AOper := [⟨some 7, none, .mov (.slot 3)⟩,
  ⟨some 8, none, .mov (.slot 0)⟩,
  ⟨some 9, none, .len false (.slot 8)⟩,
  ⟨some 10, none, .bin .lss (.slot 7) (.slot 9)⟩]
def c_law28_great_R6 : List AOper := [⟨some 13, none, .mov (.slot 0)⟩,
  ⟨some 14, none, .mov (.slot 3)⟩,
  ⟨some 15, none, .idx 3 (.slot 13) (.slot 14)⟩,
  ⟨some 16, none, .faddr 2 (.slot 15)⟩,
  ⟨some 17, none, .load false 1 (.slot 16)⟩,
  ⟨some 18, none, .len false (.slot 17)⟩,
  ⟨some 19, none, .bin .gtr (.slot 18) (.const (.int .i64 100))⟩]
def c_law28_great_R7 : List AOper := [⟨some 2, none, .mov (.const (.bool true))⟩]
def c_law28_great_R5 : List AOper := [⟨some 11, none, .mov (.slot 3)⟩,
  ⟨some 12, none, .bin .add (.slot 11) (.const (.int .i64 1))⟩,
  ⟨some 3, none, .mov (.slot 12)⟩]
def c_law28_great_L0 : ACode := (.seq (.seq (.region c_law28_great_R4 false [0, 3, 10]) (.cond (.slot 10) .skip (.exit 0))) (.seq (.block 1 (.seq (.region c_law28_great_R6 false [0, 3, 19]) (.cond (.slot 19) (.seq (.region c_law28_great_R7 false [2]) .ret) .skip))) (.region c_law28_great_R5 false [0, 3])))
def lp_law28_great_0 : ACode := .loop [0, 3] c_law28_great_L0
def c_law28_great_R8 : List AOper := [⟨some 2, none, .mov (.const (.bool false))⟩]
def c_law28_great : AFn := ⟨(.seq (.region c_law28_great_R0 false [0]) (.seq (.seq (.region c_law28_great_R1 false [0, 6]) (.cond (.slot 6) (.seq (.region c_law28_great_R2 false [2]) .ret) .skip)) (.seq (.seq (.region c_law28_great_R3 false [0, 3]) (.block 0 lp_law28_great_0)) (.seq (.region c_law28_great_R8 false [2]) .ret)))), [.slot 2]⟩
/- oriel/orielref28.Copy -/
def c_ref28_Copy_R0 : List AOper := [⟨some 2, none, .mov (.const (.data false 3 [] true))⟩]
def c_ref28_Copy_R1 : List AOper := [⟨some 3, none, .mknil 3⟩]
def c_ref28_Copy_R2 : List AOper := [⟨some 4, none, .mov (.const (.int .i64 0))⟩]
def c_ref28_Copy_R3 : List AOper := [⟨some 6, none, .mov (.slot 4)⟩,
  ⟨some 7, none, .mov (.slot 0)⟩,
  ⟨some 8, none, .len false (.slot 7)⟩,
  ⟨some 9, none, .bin .lss (.slot 6) (.slot 8)⟩]
def c_ref28_Copy_R5 : List AOper := [⟨some 12, none, .mov (.slot 0)⟩,
  ⟨some 13, none, .mov (.slot 4)⟩,
  ⟨some 14, none, .idx 3 (.slot 12) (.slot 13)⟩,
  ⟨some 15, none, .load true 3 (.slot 14)⟩,
  ⟨some 5, none, .alloc [.int .i64 0, .int .i64 0, .data false 1 [] true]⟩,
  ⟨none, none, .store true 3 (.slot 5) (.slot 15)⟩]
def c_ref28_Copy_R6 : List AOper := [⟨some 16, none, .mkslice 1 0 [.int .u8 0] []⟩,
  ⟨some 17, none, .faddr 2 (.slot 5)⟩,
  ⟨some 18, none, .load false 1 (.slot 17)⟩,
  ⟨some 19, none, .append 1 1 (.slot 16) (.slot 18)⟩,
  ⟨some 20, none, .faddr 2 (.slot 5)⟩,
  ⟨none, none, .store false 1 (.slot 20) (.slot 19)⟩]
def c_ref28_Copy_R7 : List AOper := [⟨some 21, none, .mov (.slot 3)⟩,
  ⟨some 22, none, .load true 3 (.slot 5)⟩,
  ⟨some 23, none, .mkslice 3 1 [.int .i64 0, .int .i64 0, .data false 1 [] true] [(0, (.slot 22))]⟩,
  ⟨some 24, none, .append 3 40 (.slot 21) (.slot 23)⟩,
  ⟨some 3, none, .mov (.slot 24)⟩]
def c_ref28_Copy_R4 : List AOper := [⟨some 10, none, .mov (.slot 4)⟩,
  ⟨some 11, none, .bin .add (.slot 10) (.const (.int .i64 1))⟩,
  ⟨some 4, none, .mov (.slot 11)⟩]
def c_ref28_Copy_L0 : ACode := (.seq (.seq (.region c_ref28_Copy_R3 false [0, 3, 4, 9]) (.cond (.slot 9) .skip (.exit 0))) (.seq (.block 1 (.seq (.region c_ref28_Copy_R5 false [0, 3, 4, 5]) (.seq (.region c_ref28_Copy_R6 false [0, 3, 4, 5]) (.region c_ref28_Copy_R7 false [0, 3, 4])))) (.region c_ref28_Copy_R4 false [0, 3, 4])))
def lp_ref28_Copy_0 : ACode := .loop [0, 3, 4] c_ref28_Copy_L0
def c_ref28_Copy_R8 : List AOper := [⟨some 25, none, .mov (.slot 3)⟩,
  ⟨some 2, none, .mov (.slot 25)⟩]
def c_ref28_Copy : AFn := ⟨(.seq (.region c_ref28_Copy_R0 false [0]) (.seq (.region c_ref28_Copy_R1 false [0, 3]) (.seq (.seq (.region c_ref28_Copy_R2 false [0, 3, 4]) (.block 0 lp_ref28_Copy_0)) (.seq (.region c_ref28_Copy_R8 false [2]) .ret)))), [.slot 2]⟩
/- oriel/orielref28.Size -/
def c_ref28_Size_R0 : List AOper := [⟨some 2, none, .mov (.const (.int .i64 0))⟩]
def c_ref28_Size_R1 : List AOper := [⟨some 3, none, .mov (.const (.int .i64 0))⟩]
def c_ref28_Size_R2 : List AOper := [⟨some 4, none, .mov (.const (.int .i64 0))⟩]
def c_ref28_Size_R3 : List AOper := [⟨some 5, none, .mov (.slot 4)⟩,
  ⟨some 6, none, .mov (.slot 0)⟩,
  ⟨some 7, none, .len false (.slot 6)⟩,
  ⟨some 8, none, .bin .lss (.slot 5) (.slot 7)⟩]
def c_ref28_Size_R5 : List AOper := [⟨some 11, none, .mov (.slot 3)⟩,
  ⟨some 12, none, .mov (.slot 0)⟩,
  ⟨some 13, none, .mov (.slot 4)⟩,
  ⟨some 14, none, .idx 3 (.slot 12) (.slot 13)⟩,
  ⟨some 15, none, .faddr 2 (.slot 14)⟩,
  ⟨some 16, none, .load false 1 (.slot 15)⟩,
  ⟨some 17, none, .len false (.slot 16)⟩,
  ⟨some 18, none, .bin .add (.slot 11) (.slot 17)⟩,
  ⟨some 3, none, .mov (.slot 18)⟩]
def c_ref28_Size_R4 : List AOper := [⟨some 9, none, .mov (.slot 4)⟩,
  ⟨some 10, none, .bin .add (.slot 9) (.const (.int .i64 1))⟩,
  ⟨some 4, none, .mov (.slot 10)⟩]
def c_ref28_Size_L0 : ACode := (.seq (.seq (.region c_ref28_Size_R3 false [0, 3, 4, 8]) (.cond (.slot 8) .skip (.exit 0))) (.seq (.block 1 (.region c_ref28_Size_R5 false [0, 3, 4])) (.region c_ref28_Size_R4 false [0, 3, 4])))
def lp_ref28_Size_0 : ACode := .loop [0, 3, 4] c_ref28_Size_L0
def c_ref28_Size_R6 : List AOper := [⟨some 19, none, .mov (.slot 3)⟩,
  ⟨some 2, none, .mov (.slot 19)⟩]
def c_ref28_Size : AFn := ⟨(.seq (.region c_ref28_Size_R0 false [0]) (.seq (.region c_ref28_Size_R1 false [0, 3]) (.seq (.seq (.region c_ref28_Size_R2 false [0, 3, 4]) (.block 0 lp_ref28_Size_0)) (.seq (.region c_ref28_Size_R6 false [2]) .ret)))), [.slot 2]⟩
/- oriel/orielref28.Piece -/
def c_ref28_Piece_R0 : List AOper := [⟨some 1, none, .box 3 (.slot 0)⟩,
  ⟨some 2, none, .mov (.const (.bool false))⟩]
def c_ref28_Piece_R1 : List AOper := [⟨some 3, none, .faddr 0 (.slot 1)⟩,
  ⟨some 4, none, .load false 1 (.slot 3)⟩,
  ⟨some 5, none, .bin .gtr (.slot 4) (.const (.int .i64 0))⟩,
  ⟨some 6, none, .mov (.slot 5)⟩,
  ⟨some 7, some (6, true), .faddr 0 (.slot 1)⟩,
  ⟨some 8, some (6, true), .load false 1 (.slot 7)⟩,
  ⟨some 9, some (6, true), .bin .lss (.slot 8) (.const (.int .i64 9))⟩,
  ⟨some 10, none, .pick (.slot 6) (.slot 9) (.const (.bool false))⟩,
  ⟨some 11, none, .mov (.slot 10)⟩,
  ⟨some 12, some (11, true), .faddr 1 (.slot 1)⟩,
  ⟨some 13, some (11, true), .load false 1 (.slot 12)⟩,
  ⟨some 14, some (11, true), .bin .gtr (.slot 13) (.const (.int .i64 0))⟩,
  ⟨some 15, none, .pick (.slot 11) (.slot 14) (.const (.bool false))⟩,
  ⟨some 16, none, .mov (.slot 15)⟩,
  ⟨some 17, some (16, true), .faddr 1 (.slot 1)⟩,
  ⟨some 18, some (16, true), .load false 1 (.slot 17)⟩,
  ⟨some 19, some (16, true), .bin .leq (.slot 18) (.const (.int .i64 1073741824))⟩,
  ⟨some 20, none, .pick (.slot 16) (.slot 19) (.const (.bool false))⟩,
  ⟨some 21, none, .mov (.slot 20)⟩,
  ⟨some 22, some (21, true), .faddr 2 (.slot 1)⟩,
  ⟨some 23, some (21, true), .load false 1 (.slot 22)⟩,
  ⟨some 24, some (21, true), .len false (.slot 23)⟩,
  ⟨some 25, some (21, true), .bin .gtr (.slot 24) (.const (.int .i64 0))⟩,
  ⟨some 26, none, .pick (.slot 21) (.slot 25) (.const (.bool false))⟩,
  ⟨some 27, none, .mov (.slot 26)⟩,
  ⟨some 28, some (27, true), .faddr 2 (.slot 1)⟩,
  ⟨some 29, some (27, true), .load false 1 (.slot 28)⟩,
  ⟨some 30, some (27, true), .len false (.slot 29)⟩,
  ⟨some 31, some (27, true), .bin .lss (.slot 30) (.const (.int .i64 17))⟩,
  ⟨some 32, none, .pick (.slot 27) (.slot 31) (.const (.bool false))⟩,
  ⟨some 2, none, .mov (.slot 32)⟩]
def c_ref28_Piece : AFn := ⟨(.seq (.region c_ref28_Piece_R0 false [1]) (.seq (.region c_ref28_Piece_R1 false [2]) .ret)), [.slot 2]⟩
/- oriel/orielref28.May -/
def c_ref28_May_R0 : List AOper := [⟨some 2, none, .mov (.const (.bool false))⟩]
def c_ref28_May_R1 : List AOper := [⟨some 3, none, .mov (.const (.int .i64 0))⟩]
def c_ref28_May_R2 : List AOper := [⟨some 4, none, .mov (.slot 3)⟩,
  ⟨some 5, none, .mov (.slot 0)⟩,
  ⟨some 6, none, .len false (.slot 5)⟩,
  ⟨some 7, none, .bin .lss (.slot 4) (.slot 6)⟩]
def c_ref28_May_R4 : List AOper := [⟨some 10, none, .mov (.slot 0)⟩,
  ⟨some 11, none, .mov (.slot 3)⟩,
  ⟨some 12, none, .idx 3 (.slot 10) (.slot 11)⟩,
  ⟨some 13, none, .load true 3 (.slot 12)⟩,
  ⟨some 14, none, .call .frz n_ref28_Piece [(.slot 13)]⟩,
  ⟨some 15, none, .not (.slot 14)⟩]
def c_ref28_May_R5 : List AOper := [⟨some 2, none, .mov (.const (.bool false))⟩]
def c_ref28_May_R3 : List AOper := [⟨some 8, none, .mov (.slot 3)⟩,
  ⟨some 9, none, .bin .add (.slot 8) (.const (.int .i64 1))⟩,
  ⟨some 3, none, .mov (.slot 9)⟩]
def c_ref28_May_L0 : ACode := (.seq (.seq (.region c_ref28_May_R2 false [0, 3, 7]) (.cond (.slot 7) .skip (.exit 0))) (.seq (.block 1 (.seq (.region c_ref28_May_R4 false [0, 3, 15]) (.cond (.slot 15) (.seq (.region c_ref28_May_R5 false [2]) .ret) .skip))) (.region c_ref28_May_R3 false [0, 3])))
def lp_ref28_May_0 : ACode := .loop [0, 3] c_ref28_May_L0
def c_ref28_May_R6 : List AOper := [⟨some 16, none, .mov (.slot 0)⟩,
  ⟨some 17, none, .call .frz n_ref28_Size [(.slot 16)]⟩,
  ⟨some 18, none, .bin .leq (.slot 17) (.const (.int .i64 64))⟩,
  ⟨some 2, none, .mov (.slot 18)⟩]
def c_ref28_May : AFn := ⟨(.seq (.region c_ref28_May_R0 false [0]) (.seq (.seq (.region c_ref28_May_R1 false [0, 3]) (.block 0 lp_ref28_May_0)) (.seq (.region c_ref28_May_R6 false [2]) .ret))), [.slot 2]⟩
/- oriel/orielref28.Same -/
def c_ref28_Same_R0 : List AOper := [⟨some 4, none, .mov (.const (.bool false))⟩]
def c_ref28_Same_R1 : List AOper := [⟨some 6, none, .mov (.slot 0)⟩,
  ⟨some 7, none, .len false (.slot 6)⟩,
  ⟨some 8, none, .mov (.slot 1)⟩,
  ⟨some 9, none, .len false (.slot 8)⟩,
  ⟨some 10, none, .bin .neq (.slot 7) (.slot 9)⟩]
def c_ref28_Same_R2 : List AOper := [⟨some 4, none, .mov (.const (.bool false))⟩]
def c_ref28_Same_R3 : List AOper := [⟨some 5, none, .mov (.const (.int .i64 0))⟩]
def c_ref28_Same_R4 : List AOper := [⟨some 11, none, .mov (.slot 5)⟩,
  ⟨some 12, none, .mov (.slot 0)⟩,
  ⟨some 13, none, .len false (.slot 12)⟩,
  ⟨some 14, none, .bin .lss (.slot 11) (.slot 13)⟩]
def c_ref28_Same_R6 : List AOper := [⟨some 17, none, .mov (.slot 0)⟩,
  ⟨some 18, none, .mov (.slot 5)⟩,
  ⟨some 19, none, .idx 3 (.slot 17) (.slot 18)⟩,
  ⟨some 20, none, .faddr 0 (.slot 19)⟩,
  ⟨some 21, none, .load false 1 (.slot 20)⟩,
  ⟨some 22, none, .mov (.slot 1)⟩,
  ⟨some 23, none, .mov (.slot 5)⟩,
  ⟨some 24, none, .idx 3 (.slot 22) (.slot 23)⟩,
  ⟨some 25, none, .faddr 0 (.slot 24)⟩,
  ⟨some 26, none, .load false 1 (.slot 25)⟩,
  ⟨some 27, none, .bin .neq (.slot 21) (.slot 26)⟩,
  ⟨some 28, none, .mov (.slot 27)⟩,
  ⟨some 29, some (28, false), .mov (.slot 0)⟩,
  ⟨some 30, some (28, false), .mov (.slot 5)⟩,
  ⟨some 31, some (28, false), .idx 3 (.slot 29) (.slot 30)⟩,
  ⟨some 32, some (28, false), .faddr 1 (.slot 31)⟩,
  ⟨some 33, some (28, false), .load false 1 (.slot 32)⟩,
  ⟨some 34, some (28, false), .mov (.slot 1)⟩,
  ⟨some 35, some (28, false), .mov (.slot 5)⟩,
  ⟨some 36, some (28, false), .idx 3 (.slot 34) (.slot 35)⟩,
  ⟨some 37, some (28, false), .faddr 1 (.slot 36)⟩,
  ⟨some 38, some (28, false), .load false 1 (.slot 37)⟩,
  ⟨some 39, some (28, false), .bin .neq (.slot 33) (.slot 38)⟩,
  ⟨some 40, none, .pick (.slot 28) (.const (.bool true)) (.slot 39)⟩,
  ⟨some 41, none, .mov (.slot 40)⟩,
  ⟨some 42, some (41, false), .mov (.slot 0)⟩,
  ⟨some 43, some (41, false), .mov (.slot 5)⟩,
  ⟨some 44, some (41, false), .idx 3 (.slot 42) (.slot 43)⟩,
  ⟨some 45, some (41, false), .faddr 2 (.slot 44)⟩,
  ⟨some 46, some (41, false), .load false 1 (.slot 45)⟩,
  ⟨some 47, some (41, false), .bstr (.slot 46)⟩,
  ⟨some 48, some (41, false), .mov (.slot 1)⟩,
  ⟨some 49, some (41, false), .mov (.slot 5)⟩,
  ⟨some 50, some (41, false), .idx 3 (.slot 48) (.slot 49)⟩,
  ⟨some 51, some (41, false), .faddr 2 (.slot 50)⟩,
  ⟨some 52, some (41, false), .load false 1 (.slot 51)⟩,
  ⟨some 53, some (41, false), .bstr (.slot 52)⟩,
  ⟨some 54, some (41, false), .eq false [.ks] true (.slot 47) (.slot 53)⟩,
  ⟨some 55, none, .pick (.slot 41) (.const (.bool true)) (.slot 54)⟩]
def c_ref28_Same_R7 : List AOper := [⟨some 4, none, .mov (.const (.bool false))⟩]
def c_ref28_Same_R5 : List AOper := [⟨some 15, none, .mov (.slot 5)⟩,
  ⟨some 16, none, .bin .add (.slot 15) (.const (.int .i64 1))⟩,
  ⟨some 5, none, .mov (.slot 16)⟩]
def c_ref28_Same_L0 : ACode := (.seq (.seq (.region c_ref28_Same_R4 false [0, 1, 5, 14]) (.cond (.slot 14) .skip (.exit 0))) (.seq (.block 1 (.seq (.region c_ref28_Same_R6 true [0, 1, 5, 55]) (.cond (.slot 55) (.seq (.region c_ref28_Same_R7 false [4]) .ret) .skip))) (.region c_ref28_Same_R5 false [0, 1, 5])))
def lp_ref28_Same_0 : ACode := .loop [0, 1, 5] c_ref28_Same_L0
def c_ref28_Same_R8 : List AOper := [⟨some 4, none, .mov (.const (.bool true))⟩]
def c_ref28_Same : AFn := ⟨(.seq (.region c_ref28_Same_R0 false [0, 1]) (.seq (.seq (.region c_ref28_Same_R1 false [0, 1, 10]) (.cond (.slot 10) (.seq (.region c_ref28_Same_R2 false [4]) .ret) .skip)) (.seq (.seq (.region c_ref28_Same_R3 false [0, 1, 5]) (.block 0 lp_ref28_Same_0)) (.seq (.region c_ref28_Same_R8 false [4]) .ret)))), [.slot 4]⟩
/- oriel/orielref28.First -/
def c_ref28_First_R0 : List AOper := [⟨some 4, none, .mov (.const (.int .i64 0))⟩]
def c_ref28_First_R1 : List AOper := [⟨some 6, none, .mov (.slot 0)⟩,
  ⟨some 7, none, .len false (.slot 6)⟩,
  ⟨some 5, none, .mov (.slot 7)⟩]
def c_ref28_First_R2 : List AOper := [⟨some 8, none, .mov (.slot 5)⟩,
  ⟨some 9, none, .bin .gtr (.slot 8) (.const (.int .i64 0))⟩]
def c_ref28_First_R4 : List AOper := [⟨some 12, none, .mov (.slot 0)⟩,
  ⟨some 13, none, .mov (.slot 5)⟩,
  ⟨some 14, none, .sl 3 (.slot 12) none (some (.slot 13)) none⟩,
  ⟨some 15, none, .call .frz n_ref28_Size [(.slot 14)]⟩,
  ⟨some 16, none, .mov (.slot 1)⟩,
  ⟨some 17, none, .bin .leq (.slot 15) (.slot 16)⟩]
def c_ref28_First_R5 : List AOper := [⟨some 18, none, .mov (.slot 5)⟩,
  ⟨some 4, none, .mov (.slot 18)⟩]
def c_ref28_First_R3 : List AOper := [⟨some 10, none, .mov (.slot 5)⟩,
  ⟨some 11, none, .bin .sub (.slot 10) (.const (.int .i64 1))⟩,
  ⟨some 5, none, .mov (.slot 11)⟩]
def c_ref28_First_L0 : ACode := (.seq (.seq (.region c_ref28_First_R2 false [0, 1, 5, 9]) (.cond (.slot 9) .skip (.exit 0))) (.seq (.block 1 (.seq (.region c_ref28_First_R4 false [0, 1, 5, 17]) (.cond (.slot 17) (.seq (.region c_ref28_First_R5 false [4]) .ret) .skip))) (.region c_ref28_First_R3 false [0, 1, 5])))
def lp_ref28_First_0 : ACode := .loop [0, 1, 5] c_ref28_First_L0
def c_ref28_First_R6 : List AOper := [⟨some 4, none, .mov (.const (.int .i64 0))⟩]
def c_ref28_First : AFn := ⟨(.seq (.region c_ref28_First_R0 false [0, 1]) (.seq (.seq (.region c_ref28_First_R1 false [0, 1, 5]) (.block 0 lp_ref28_First_0)) (.seq (.region c_ref28_First_R6 false [4]) .ret))), [.slot 4]⟩
/- oriel/orielref28.Drop -/
def c_ref28_Drop_R0 : List AOper := [⟨some 4, none, .mov (.const (.data false 3 [] true))⟩]
def c_ref28_Drop_R1 : List AOper := [⟨some 5, none, .mknil 3⟩]
def c_ref28_Drop_R2 : List AOper := [⟨some 6, none, .mov (.const (.int .i64 0))⟩]
def c_ref28_Drop_R3 : List AOper := [⟨some 7, none, .mov (.slot 6)⟩,
  ⟨some 8, none, .mov (.slot 0)⟩,
  ⟨some 9, none, .len false (.slot 8)⟩,
  ⟨some 10, none, .bin .lss (.slot 7) (.slot 9)⟩]
def c_ref28_Drop_R5 : List AOper := [⟨some 13, none, .mov (.slot 0)⟩,
  ⟨some 14, none, .mov (.slot 6)⟩,
  ⟨some 15, none, .idx 3 (.slot 13) (.slot 14)⟩,
  ⟨some 16, none, .faddr 0 (.slot 15)⟩,
  ⟨some 17, none, .load false 1 (.slot 16)⟩,
  ⟨some 18, none, .mov (.slot 1)⟩,
  ⟨some 19, none, .bin .neq (.slot 17) (.slot 18)⟩]
def c_ref28_Drop_R6 : List AOper := [⟨some 20, none, .mov (.slot 5)⟩,
  ⟨some 21, none, .mov (.slot 0)⟩,
  ⟨some 22, none, .mov (.slot 6)⟩,
  ⟨some 23, none, .idx 3 (.slot 21) (.slot 22)⟩,
  ⟨some 24, none, .load true 3 (.slot 23)⟩,
  ⟨some 25, none, .mkslice 3 1 [.int .i64 0, .int .i64 0, .data false 1 [] true] [(0, (.slot 24))]⟩,
  ⟨some 26, none, .append 3 40 (.slot 20) (.slot 25)⟩,
  ⟨some 5, none, .mov (.slot 26)⟩]
def c_ref28_Drop_R4 : List AOper := [⟨some 11, none, .mov (.slot 6)⟩,
  ⟨some 12, none, .bin .add (.slot 11) (.const (.int .i64 1))⟩,
  ⟨some 6, none, .mov (.slot 12)⟩]
def c_ref28_Drop_L0 : ACode := (.seq (.seq (.region c_ref28_Drop_R3 false [0, 1, 5, 6, 10]) (.cond (.slot 10) .skip (.exit 0))) (.seq (.block 1 (.seq (.region c_ref28_Drop_R5 false [0, 1, 5, 6, 19]) (.cond (.slot 19) (.region c_ref28_Drop_R6 false [0, 1, 5, 6]) .skip))) (.region c_ref28_Drop_R4 false [0, 1, 5, 6])))
def lp_ref28_Drop_0 : ACode := .loop [0, 1, 5, 6] c_ref28_Drop_L0
def c_ref28_Drop_R7 : List AOper := [⟨some 27, none, .mov (.slot 5)⟩,
  ⟨some 4, none, .mov (.slot 27)⟩]
def c_ref28_Drop : AFn := ⟨(.seq (.region c_ref28_Drop_R0 false [0, 1]) (.seq (.region c_ref28_Drop_R1 false [0, 1, 5]) (.seq (.seq (.region c_ref28_Drop_R2 false [0, 1, 5, 6]) (.block 0 lp_ref28_Drop_0)) (.seq (.region c_ref28_Drop_R7 false [4]) .ret)))), [.slot 4]⟩
/- oriel/oriellaw28.MergeEdits -/
def c_law28_MergeEdits_R0 : List AOper := [⟨some 5, none, .box 3 (.slot 1)⟩,
  ⟨some 8, none, .mov (.const (.bool false))⟩]
def c_law28_MergeEdits_R1 : List AOper := [⟨some 21, none, .call .frz n_law28_known []⟩,
  ⟨some 22, none, .not (.slot 21)⟩]
def c_law28_MergeEdits_R2 : List AOper := [⟨some 8, none, .mov (.const (.bool false))⟩]
def c_law28_MergeEdits_R3 : List AOper := [⟨some 23, none, .mov (.slot 0)⟩,
  ⟨some 24, none, .call .frz n_law28_great [(.slot 23)]⟩,
  ⟨some 25, none, .mov (.slot 24)⟩,
  ⟨some 26, some (25, false), .faddr 2 (.slot 5)⟩,
  ⟨some 27, some (25, false), .load false 1 (.slot 26)⟩,
  ⟨some 28, some (25, false), .len false (.slot 27)⟩,
  ⟨some 29, some (25, false), .bin .gtr (.slot 28) (.const (.int .i64 100))⟩,
  ⟨some 30, none, .pick (.slot 25) (.const (.bool true)) (.slot 29)⟩]
def c_law28_MergeEdits_R4 : List AOper := [⟨some 8, none, .mov (.const (.bool true))⟩]
def c_law28_MergeEdits_R5 : List AOper := [⟨some 31, none, .mov (.slot 0)⟩,
  ⟨some 32, none, .call .frz n_ref28_Copy [(.slot 31)]⟩,
  ⟨some 9, none, .mov (.slot 32)⟩]
def c_law28_MergeEdits_R6 : List AOper := [⟨some 34, none, .mov (.slot 9)⟩,
  ⟨some 35, none, .load true 3 (.slot 5)⟩,
  ⟨some 36, none, .call .frz n_merge_Push [(.slot 34), (.slot 35)]⟩,
  ⟨some 33, none, .mov (.slot 36)⟩,
  ⟨some 37, none, .extract 0 (.slot 33)⟩,
  ⟨some 38, none, .extract 1 (.slot 33)⟩,
  ⟨some 10, none, .mov (.slot 37)⟩,
  ⟨some 11, none, .mov (.slot 38)⟩]
def c_law28_MergeEdits_R7 : List AOper := [⟨some 40, none, .mov (.slot 9)⟩,
  ⟨some 41, none, .mov (.slot 2)⟩,
  ⟨some 42, none, .call .frz n_merge_Pop [(.slot 40), (.slot 41)]⟩,
  ⟨some 39, none, .mov (.slot 42)⟩,
  ⟨some 43, none, .extract 0 (.slot 39)⟩,
  ⟨some 44, none, .extract 1 (.slot 39)⟩,
  ⟨some 12, none, .mov (.slot 43)⟩,
  ⟨some 13, none, .mov (.slot 44)⟩]
def c_law28_MergeEdits_R8 : List AOper := [⟨some 45, none, .mov (.slot 9)⟩,
  ⟨some 46, none, .mov (.slot 3)⟩,
  ⟨some 47, none, .call .frz n_merge_Drop [(.slot 45), (.slot 46)]⟩,
  ⟨some 14, none, .mov (.slot 47)⟩]
def c_law28_MergeEdits_R9 : List AOper := [⟨some 48, none, .mov (.slot 9)⟩,
  ⟨some 49, none, .call .frz n_merge_May [(.slot 48)]⟩,
  ⟨some 50, none, .mov (.slot 0)⟩,
  ⟨some 51, none, .call .frz n_ref28_May [(.slot 50)]⟩,
  ⟨some 52, none, .eq false [.kb] true (.slot 49) (.slot 51)⟩,
  ⟨some 53, none, .mov (.slot 52)⟩,
  ⟨some 54, some (53, false), .mov (.slot 9)⟩,
  ⟨some 55, some (53, false), .mov (.slot 0)⟩,
  ⟨some 56, some (53, false), .call .frz n_ref28_Same [(.slot 54), (.slot 55)]⟩,
  ⟨some 57, some (53, false), .not (.slot 56)⟩,
  ⟨some 58, none, .pick (.slot 53) (.const (.bool true)) (.slot 57)⟩]
def c_law28_MergeEdits_R10 : List AOper := [⟨some 8, none, .mov (.const (.bool false))⟩]
def c_law28_MergeEdits_R11 : List AOper := [⟨some 59, none, .mov (.slot 0)⟩,
  ⟨some 60, none, .call .frz n_ref28_May [(.slot 59)]⟩,
  ⟨some 61, none, .not (.slot 60)⟩]
def c_law28_MergeEdits_R12 : List AOper := [⟨some 62, none, .mov (.slot 11)⟩,
  ⟨some 63, none, .not (.slot 62)⟩,
  ⟨some 64, none, .mov (.slot 63)⟩,
  ⟨some 65, some (64, true), .mov (.slot 10)⟩,
  ⟨some 66, some (64, true), .len false (.slot 65)⟩,
  ⟨some 67, some (64, true), .mov (.slot 12)⟩,
  ⟨some 68, some (64, true), .len false (.slot 67)⟩,
  ⟨some 69, some (64, true), .bin .add (.slot 66) (.slot 68)⟩,
  ⟨some 70, some (64, true), .mov (.slot 13)⟩,
  ⟨some 71, some (64, true), .len false (.slot 70)⟩,
  ⟨some 72, some (64, true), .bin .add (.slot 69) (.slot 71)⟩,
  ⟨some 73, some (64, true), .mov (.slot 14)⟩,
  ⟨some 74, some (64, true), .len false (.slot 73)⟩,
  ⟨some 75, some (64, true), .bin .add (.slot 72) (.slot 74)⟩,
  ⟨some 76, some (64, true), .bin .eql (.slot 75) (.const (.int .i64 0))⟩,
  ⟨some 77, none, .pick (.slot 64) (.slot 76) (.const (.bool false))⟩,
  ⟨some 78, none, .mov (.slot 77)⟩,
  ⟨some 79, some (78, true), .mov (.slot 0)⟩,
  ⟨some 80, some (78, true), .call .frz n_merge_Size [(.slot 79)]⟩,
  ⟨some 81, some (78, true), .bin .eql (.slot 80) (.const (.int .i64 0))⟩,
  ⟨some 82, none, .pick (.slot 78) (.slot 81) (.const (.bool false))⟩,
  ⟨some 8, none, .mov (.slot 82)⟩]
def c_law28_MergeEdits_R13 : List AOper := [⟨some 83, none, .mov (.slot 0)⟩,
  ⟨some 84, none, .mov (.slot 2)⟩,
  ⟨some 85, none, .call .frz n_ref28_First [(.slot 83), (.slot 84)]⟩,
  ⟨some 15, none, .mov (.slot 85)⟩]
def c_law28_MergeEdits_R14 : List AOper := [⟨some 86, none, .mov (.slot 0)⟩,
  ⟨some 87, none, .call .frz n_merge_Size [(.slot 86)]⟩,
  ⟨some 88, none, .mov (.slot 0)⟩,
  ⟨some 89, none, .call .frz n_ref28_Size [(.slot 88)]⟩,
  ⟨some 90, none, .bin .neq (.slot 87) (.slot 89)⟩,
  ⟨some 91, none, .mov (.slot 90)⟩,
  ⟨some 92, some (91, false), .mov (.slot 12)⟩,
  ⟨some 93, some (91, false), .mov (.slot 0)⟩,
  ⟨some 94, some (91, false), .mov (.slot 15)⟩,
  ⟨some 95, some (91, false), .sl 3 (.slot 93) (some (.slot 94)) none none⟩,
  ⟨some 96, some (91, false), .call .frz n_ref28_Same [(.slot 92), (.slot 95)]⟩,
  ⟨some 97, some (91, false), .not (.slot 96)⟩,
  ⟨some 98, none, .pick (.slot 91) (.const (.bool true)) (.slot 97)⟩,
  ⟨some 99, none, .mov (.slot 98)⟩,
  ⟨some 100, some (99, false), .mov (.slot 13)⟩,
  ⟨some 101, some (99, false), .mov (.slot 0)⟩,
  ⟨some 102, some (99, false), .mov (.slot 15)⟩,
  ⟨some 103, some (99, false), .sl 3 (.slot 101) none (some (.slot 102)) none⟩,
  ⟨some 104, some (99, false), .call .frz n_ref28_Same [(.slot 100), (.slot 103)]⟩,
  ⟨some 105, some (99, false), .not (.slot 104)⟩,
  ⟨some 106, none, .pick (.slot 99) (.const (.bool true)) (.slot 105)⟩,
  ⟨some 107, none, .mov (.slot 106)⟩,
  ⟨some 108, some (107, false), .mov (.slot 14)⟩,
  ⟨some 109, some (107, false), .mov (.slot 0)⟩,
  ⟨some 110, some (107, false), .mov (.slot 3)⟩,
  ⟨some 111, some (107, false), .call .frz n_ref28_Drop [(.slot 109), (.slot 110)]⟩,
  ⟨some 112, some (107, false), .call .frz n_ref28_Same [(.slot 108), (.slot 111)]⟩,
  ⟨some 113, some (107, false), .not (.slot 112)⟩,
  ⟨some 114, none, .pick (.slot 107) (.const (.bool true)) (.slot 113)⟩]
def c_law28_MergeEdits_R15 : List AOper := [⟨some 8, none, .mov (.const (.bool false))⟩]
def c_law28_MergeEdits_R16 : List AOper := [⟨some 115, none, .load true 3 (.slot 5)⟩,
  ⟨some 116, none, .call .frz n_ref28_Piece [(.slot 115)]⟩,
  ⟨some 117, none, .mov (.slot 116)⟩,
  ⟨some 118, some (117, true), .mov (.slot 0)⟩,
  ⟨some 119, some (117, true), .call .frz n_ref28_Size [(.slot 118)]⟩,
  ⟨some 120, some (117, true), .faddr 2 (.slot 5)⟩,
  ⟨some 121, some (117, true), .load false 1 (.slot 120)⟩,
  ⟨some 122, some (117, true), .len false (.slot 121)⟩,
  ⟨some 123, some (117, true), .bin .add (.slot 119) (.slot 122)⟩,
  ⟨some 124, some (117, true), .bin .leq (.slot 123) (.const (.int .i64 64))⟩,
  ⟨some 125, none, .pick (.slot 117) (.slot 124) (.const (.bool false))⟩,
  ⟨some 16, none, .mov (.slot 125)⟩]
def c_law28_MergeEdits_R17 : List AOper := [⟨some 126, none, .mov (.slot 0)⟩,
  ⟨some 127, none, .call .frz n_ref28_Copy [(.slot 126)]⟩,
  ⟨some 17, none, .mov (.slot 127)⟩]
def c_law28_MergeEdits_R18 : List AOper := [⟨some 128, none, .mov (.slot 16)⟩]
def c_law28_MergeEdits_R19 : List AOper := [⟨some 129, none, .mov (.slot 17)⟩,
  ⟨some 130, none, .load true 3 (.slot 5)⟩,
  ⟨some 131, none, .mkslice 3 1 [.int .i64 0, .int .i64 0, .data false 1 [] true] [(0, (.slot 130))]⟩,
  ⟨some 132, none, .append 3 40 (.slot 129) (.slot 131)⟩,
  ⟨some 17, none, .mov (.slot 132)⟩]
def c_law28_MergeEdits_R20 : List AOper := [⟨some 133, none, .mov (.slot 11)⟩,
  ⟨some 134, none, .mov (.slot 16)⟩,
  ⟨some 135, none, .eq false [.kb] true (.slot 133) (.slot 134)⟩,
  ⟨some 136, none, .mov (.slot 135)⟩,
  ⟨some 137, some (136, false), .mov (.slot 10)⟩,
  ⟨some 138, some (136, false), .mov (.slot 17)⟩,
  ⟨some 139, some (136, false), .call .frz n_ref28_Same [(.slot 137), (.slot 138)]⟩,
  ⟨some 140, some (136, false), .not (.slot 139)⟩,
  ⟨some 141, none, .pick (.slot 136) (.const (.bool true)) (.slot 140)⟩]
def c_law28_MergeEdits_R21 : List AOper := [⟨some 8, none, .mov (.const (.bool false))⟩]
def c_law28_MergeEdits_R22 : List AOper := [⟨some 142, none, .mkslice 3 0 [.int .i64 0, .int .i64 0, .data false 1 [] true] []⟩,
  ⟨some 143, none, .mov (.slot 10)⟩,
  ⟨some 144, none, .append 3 40 (.slot 142) (.slot 143)⟩,
  ⟨some 145, none, .mov (.slot 12)⟩,
  ⟨some 146, none, .append 3 40 (.slot 144) (.slot 145)⟩,
  ⟨some 147, none, .mkslice 3 0 [.int .i64 0, .int .i64 0, .data false 1 [] true] []⟩,
  ⟨some 148, none, .mov (.slot 13)⟩,
  ⟨some 149, none, .append 3 40 (.slot 147) (.slot 148)⟩,
  ⟨some 150, none, .mov (.slot 14)⟩,
  ⟨some 151, none, .append 3 40 (.slot 149) (.slot 150)⟩,
  ⟨some 152, none, .append 3 40 (.slot 146) (.slot 151)⟩,
  ⟨some 18, none, .mov (.slot 152)⟩]
def c_law28_MergeEdits_R23 : List AOper := [⟨some 19, none, .mov (.const (.int .i64 0))⟩]
def c_law28_MergeEdits_R24 : List AOper := [⟨some 153, none, .mov (.slot 19)⟩,
  ⟨some 154, none, .mov (.slot 18)⟩,
  ⟨some 155, none, .len false (.slot 154)⟩,
  ⟨some 156, none, .bin .lss (.slot 153) (.slot 155)⟩]
def c_law28_MergeEdits_R26 : List AOper := [⟨some 20, none, .mov (.const (.int .i64 0))⟩]
def c_law28_MergeEdits_R27 : List AOper := [⟨some 159, none, .mov (.slot 20)⟩,
  ⟨some 160, none, .mov (.slot 18)⟩,
  ⟨some 161, none, .mov (.slot 19)⟩,
  ⟨some 162, none, .idx 3 (.slot 160) (.slot 161)⟩,
  ⟨some 163, none, .faddr 2 (.slot 162)⟩,
  ⟨some 164, none, .load false 1 (.slot 163)⟩,
  ⟨some 165, none, .len false (.slot 164)⟩,
  ⟨some 166, none, .bin .lss (.slot 159) (.slot 165)⟩]
def c_law28_MergeEdits_R29 : List AOper := [⟨some 169, none, .mov (.slot 18)⟩,
  ⟨some 170, none, .mov (.slot 19)⟩,
  ⟨some 171, none, .idx 3 (.slot 169) (.slot 170)⟩,
  ⟨some 172, none, .faddr 2 (.slot 171)⟩,
  ⟨some 173, none, .load false 1 (.slot 172)⟩,
  ⟨some 174, none, .mov (.slot 20)⟩,
  ⟨some 175, none, .idx 1 (.slot 173) (.slot 174)⟩,
  ⟨some 176, none, .load false 1 (.slot 175)⟩,
  ⟨some 177, none, .bin .add (.slot 176) (.const (.int .u8 1))⟩,
  ⟨some 178, none, .idx 1 (.slot 173) (.slot 174)⟩,
  ⟨none, none, .store false 1 (.slot 178) (.slot 177)⟩]
def c_law28_MergeEdits_R28 : List AOper := [⟨some 167, none, .mov (.slot 20)⟩,
  ⟨some 168, none, .bin .add (.slot 167) (.const (.int .i64 1))⟩,
  ⟨some 20, none, .mov (.slot 168)⟩]
def c_law28_MergeEdits_L1 : ACode := (.seq (.seq (.region c_law28_MergeEdits_R27 false [0, 9, 18, 19, 20, 166]) (.cond (.slot 166) .skip (.exit 2))) (.seq (.block 3 (.region c_law28_MergeEdits_R29 false [0, 9, 18, 19, 20])) (.region c_law28_MergeEdits_R28 false [0, 9, 18, 19, 20])))
def lp_law28_MergeEdits_1 : ACode := .loop [0, 9, 18, 19, 20] c_law28_MergeEdits_L1
def c_law28_MergeEdits_R25 : List AOper := [⟨some 157, none, .mov (.slot 19)⟩,
  ⟨some 158, none, .bin .add (.slot 157) (.const (.int .i64 1))⟩,
  ⟨some 19, none, .mov (.slot 158)⟩]
def c_law28_MergeEdits_L0 : ACode := (.seq (.seq (.region c_law28_MergeEdits_R24 false [0, 9, 18, 19, 156]) (.cond (.slot 156) .skip (.exit 0))) (.seq (.block 1 (.seq (.region c_law28_MergeEdits_R26 false [0, 9, 18, 19, 20]) (.block 2 lp_law28_MergeEdits_1))) (.region c_law28_MergeEdits_R25 false [0, 9, 18, 19])))
def lp_law28_MergeEdits_0 : ACode := .loop [0, 9, 18, 19] c_law28_MergeEdits_L0
def c_law28_MergeEdits_R30 : List AOper := [⟨some 179, none, .mov (.slot 9)⟩,
  ⟨some 180, none, .mov (.slot 0)⟩,
  ⟨some 181, none, .call .frz n_ref28_Same [(.slot 179), (.slot 180)]⟩,
  ⟨some 8, none, .mov (.slot 181)⟩]
def c_law28_MergeEdits : AFn := ⟨(.seq (.region c_law28_MergeEdits_R0 false [0, 2, 3, 5]) (.seq (.seq (.region c_law28_MergeEdits_R1 false [0, 2, 3, 5, 22]) (.cond (.slot 22) (.seq (.region c_law28_MergeEdits_R2 false [8]) .ret) .skip)) (.seq (.seq (.region c_law28_MergeEdits_R3 false [0, 2, 3, 5, 30]) (.cond (.slot 30) (.seq (.region c_law28_MergeEdits_R4 false [8]) .ret) .skip)) (.seq (.region c_law28_MergeEdits_R5 false [0, 2, 3, 5, 9]) (.seq (.region c_law28_MergeEdits_R6 false [0, 2, 3, 5, 9, 10, 11]) (.seq (.region c_law28_MergeEdits_R7 false [0, 2, 3, 5, 9, 10, 11, 12, 13]) (.seq (.region c_law28_MergeEdits_R8 false [0, 2, 3, 5, 9, 10, 11, 12, 13, 14]) (.seq (.seq (.region c_law28_MergeEdits_R9 false [0, 2, 3, 5, 9, 10, 11, 12, 13, 14, 58]) (.cond (.slot 58) (.seq (.region c_law28_MergeEdits_R10 false [8]) .ret) .skip)) (.seq (.seq (.region c_law28_MergeEdits_R11 false [0, 2, 3, 5, 9, 10, 11, 12, 13, 14, 61]) (.cond (.slot 61) (.seq (.region c_law28_MergeEdits_R12 false [8]) .ret) .skip)) (.seq (.region c_law28_MergeEdits_R13 false [0, 3, 5, 9, 10, 11, 12, 13, 14, 15]) (.seq (.seq (.region c_law28_MergeEdits_R14 false [0, 5, 9, 10, 11, 12, 13, 14, 114]) (.cond (.slot 114) (.seq (.region c_law28_MergeEdits_R15 false [8]) .ret) .skip)) (.seq (.region c_law28_MergeEdits_R16 true [0, 5, 9, 10, 11, 12, 13, 14, 16]) (.seq (.region c_law28_MergeEdits_R17 false [0, 5, 9, 10, 11, 12, 13, 14, 16, 17]) (.seq (.seq (.region c_law28_MergeEdits_R18 false [0, 5, 9, 10, 11, 12, 13, 14, 16, 17, 128]) (.cond (.slot 128) (.region c_law28_MergeEdits_R19 false [0, 9, 10, 11, 12, 13, 14, 16, 17]) .skip)) (.seq (.seq (.region c_law28_MergeEdits_R20 false [0, 9, 10, 12, 13, 14, 141]) (.cond (.slot 141) (.seq (.region c_law28_MergeEdits_R21 false [8]) .ret) .skip)) (.seq (.region c_law28_MergeEdits_R22 false [0, 9, 18]) (.seq (.seq (.region c_law28_MergeEdits_R23 false [0, 9, 18, 19]) (.block 0 lp_law28_MergeEdits_0)) (.seq (.region c_law28_MergeEdits_R30 false [8]) .ret)))))))))))))))))), [.slot 8]⟩
/- oriel/oriellaw28.MergeBytes -/
def c_law28_MergeBytes_R0 : List AOper := [⟨some 3, none, .box 1 (.slot 1)⟩,
  ⟨some 4, none, .alloc [.bool false]⟩]
def c_law28_MergeBytes_R1 : List AOper := [⟨some 14, none, .call .frz n_law28_known []⟩,
  ⟨some 15, none, .not (.slot 14)⟩]
def c_law28_MergeBytes_R2 : List AOper := [⟨none, none, .store false 1 (.slot 4) (.const (.bool false))⟩]
def c_law28_MergeBytes_R3 : List AOper := [⟨some 16, none, .mov (.slot 0)⟩,
  ⟨some 17, none, .call .frz n_law28_great [(.slot 16)]⟩]
def c_law28_MergeBytes_R4 : List AOper := [⟨none, none, .store false 1 (.slot 4) (.const (.bool true))⟩]
def c_law28_MergeBytes_R5 : List AOper := [⟨some 18, none, .mov (.slot 0)⟩,
  ⟨some 19, none, .call .frz n_merge_Bytes [(.slot 18)]⟩,
  ⟨some 5, none, .mov (.slot 19)⟩]
def c_law28_MergeBytes_R6 : List AOper := [⟨some 20, none, .mov (.slot 5)⟩,
  ⟨some 21, none, .isnil .kf false (.slot 20)⟩]
def c_law28_MergeBytes_R7 : List AOper := [⟨none, none, .store false 1 (.slot 4) (.const (.bool false))⟩]
def c_law28_MergeBytes_R8 : List AOper := [⟨some 6, none, .alloc [.data false 1 [] true]⟩]
def c_law28_MergeBytes_R9 : List AOper := [⟨some 7, none, .alloc [.data false 1 [] true]⟩]
def c_law28_MergeBytes_R10 : List AOper := [⟨some 8, none, .mov (.const (.int .i64 0))⟩]
def c_law28_MergeBytes_R11 : List AOper := [⟨some 22, none, .mov (.slot 8)⟩,
  ⟨some 23, none, .mov (.slot 0)⟩,
  ⟨some 24, none, .len false (.slot 23)⟩,
  ⟨some 25, none, .bin .lss (.slot 22) (.slot 24)⟩,
  ⟨some 26, none, .mov (.slot 25)⟩,
  ⟨some 27, some (26, true), .mov (.slot 0)⟩,
  ⟨some 28, some (26, true), .call .frz n_ref28_May [(.slot 27)]⟩,
  ⟨some 29, none, .pick (.slot 26) (.slot 28) (.const (.bool false))⟩]
def c_law28_MergeBytes_R13 : List AOper := [⟨some 9, none, .mov (.const (.int .i64 0))⟩]
def c_law28_MergeBytes_R14 : List AOper := [⟨some 32, none, .mov (.slot 9)⟩,
  ⟨some 33, none, .mov (.slot 0)⟩,
  ⟨some 34, none, .mov (.slot 8)⟩,
  ⟨some 35, none, .idx 3 (.slot 33) (.slot 34)⟩,
  ⟨some 36, none, .faddr 2 (.slot 35)⟩,
  ⟨some 37, none, .load false 1 (.slot 36)⟩,
  ⟨some 38, none, .len false (.slot 37)⟩,
  ⟨some 39, none, .bin .lss (.slot 32) (.slot 38)⟩]
def c_law28_MergeBytes_R16 : List AOper := [⟨some 42, none, .load false 1 (.slot 6)⟩,
  ⟨some 43, none, .mov (.slot 0)⟩,
  ⟨some 44, none, .mov (.slot 8)⟩,
  ⟨some 45, none, .idx 3 (.slot 43) (.slot 44)⟩,
  ⟨some 46, none, .faddr 0 (.slot 45)⟩,
  ⟨some 47, none, .load false 1 (.slot 46)⟩,
  ⟨some 48, none, .mkslice 1 1 [.int .i64 0] [(0, (.slot 47))]⟩,
  ⟨some 49, none, .append 1 8 (.slot 42) (.slot 48)⟩,
  ⟨none, none, .store false 1 (.slot 6) (.slot 49)⟩]
def c_law28_MergeBytes_R17 : List AOper := [⟨some 50, none, .load false 1 (.slot 7)⟩,
  ⟨some 51, none, .mov (.slot 0)⟩,
  ⟨some 52, none, .mov (.slot 8)⟩,
  ⟨some 53, none, .idx 3 (.slot 51) (.slot 52)⟩,
  ⟨some 54, none, .faddr 2 (.slot 53)⟩,
  ⟨some 55, none, .load false 1 (.slot 54)⟩,
  ⟨some 56, none, .mov (.slot 9)⟩,
  ⟨some 57, none, .idx 1 (.slot 55) (.slot 56)⟩,
  ⟨some 58, none, .load false 1 (.slot 57)⟩,
  ⟨some 59, none, .mkslice 1 1 [.int .u8 0] [(0, (.slot 58))]⟩,
  ⟨some 60, none, .append 1 1 (.slot 50) (.slot 59)⟩,
  ⟨none, none, .store false 1 (.slot 7) (.slot 60)⟩]
def c_law28_MergeBytes_R15 : List AOper := [⟨some 40, none, .mov (.slot 9)⟩,
  ⟨some 41, none, .bin .add (.slot 40) (.const (.int .i64 1))⟩,
  ⟨some 9, none, .mov (.slot 41)⟩]
def c_law28_MergeBytes_L1 : ACode := (.seq (.seq (.region c_law28_MergeBytes_R14 false [0, 4, 5, 6, 7, 8, 9, 39]) (.cond (.slot 39) .skip (.exit 2))) (.seq (.block 3 (.seq (.region c_law28_MergeBytes_R16 true [0, 4, 5, 6, 7, 8, 9]) (.region c_law28_MergeBytes_R17 true [0, 4, 5, 6, 7, 8, 9]))) (.region c_law28_MergeBytes_R15 false [0, 4, 5, 6, 7, 8, 9])))
def lp_law28_MergeBytes_1 : ACode := .loop [0, 4, 5, 6, 7, 8, 9] c_law28_MergeBytes_L1
def c_law28_MergeBytes_R12 : List AOper := [⟨some 30, none, .mov (.slot 8)⟩,
  ⟨some 31, none, .bin .add (.slot 30) (.const (.int .i64 1))⟩,
  ⟨some 8, none, .mov (.slot 31)⟩]
def c_law28_MergeBytes_L0 : ACode := (.seq (.seq (.region c_law28_MergeBytes_R11 false [0, 4, 5, 6, 7, 8, 29]) (.cond (.slot 29) .skip (.exit 0))) (.seq (.block 1 (.seq (.region c_law28_MergeBytes_R13 false [0, 4, 5, 6, 7, 8, 9]) (.block 2 lp_law28_MergeBytes_1))) (.region c_law28_MergeBytes_R12 false [0, 4, 5, 6, 7, 8])))
def lp_law28_MergeBytes_0 : ACode := .loop [0, 4, 5, 6, 7, 8] c_law28_MergeBytes_L0
def c_law28_MergeBytes_R18 : List AOper := [⟨some 10, none, .alloc [.int .i64 0]⟩,
  ⟨none, none, .store false 1 (.slot 10) (.const (.int .i64 0))⟩]
def c_law28_MergeBytes_R19 : List AOper := [⟨some 61, none, .load false 1 (.slot 10)⟩,
  ⟨some 62, none, .bin .lss (.slot 61) (.const (.int .i64 2))⟩]
def c_law28_MergeBytes_R21 : List AOper := [⟨some 11, none, .alloc [.int .i64 0]⟩,
  ⟨none, none, .store false 1 (.slot 11) (.const (.int .i64 0))⟩]
def c_law28_MergeBytes_R22 : List AOper := [⟨some 65, none, .mov (.slot 5)⟩]
def c_law28_MergeBytes_R29 : List AOper := [⟨some 97, none, .load false 1 (.slot 10)⟩,
  ⟨some 98, none, .bin .eql (.slot 97) (.const (.int .i64 1))⟩,
  ⟨some 99, none, .mov (.slot 98)⟩,
  ⟨some 100, some (99, true), .load false 1 (.slot 11)⟩,
  ⟨some 101, some (99, true), .load false 1 (.slot 6)⟩,
  ⟨some 102, some (99, true), .len false (.slot 101)⟩,
  ⟨some 103, some (99, true), .bin .neq (.slot 100) (.slot 102)⟩,
  ⟨some 104, none, .pick (.slot 99) (.slot 103) (.const (.bool false))⟩]
def c_law28_MergeBytes_R30 : List AOper := [⟨none, none, .store false 1 (.slot 4) (.const (.bool false))⟩]
def c_law28_MergeBytes_R31 : List AOper := [⟨some 105, none, .load false 1 (.slot 10)⟩]
def c_law28_MergeBytes_R32 : List AOper := [⟨some 10, none, .alloc [.int .i64 0]⟩,
  ⟨none, none, .store false 1 (.slot 10) (.slot 105)⟩]
def c_law28_MergeBytes_R20 : List AOper := [⟨some 63, none, .load false 1 (.slot 10)⟩,
  ⟨some 64, none, .bin .add (.slot 63) (.const (.int .i64 1))⟩,
  ⟨none, none, .store false 1 (.slot 10) (.slot 64)⟩]
def c_law28_MergeBytes_L2 : ACode := (.seq (.seq (.region c_law28_MergeBytes_R19 false [4, 5, 62]) (.cond (.slot 62) .skip (.exit 4))) (.seq (.block 5 (.seq (.region c_law28_MergeBytes_R21 false [5]) (.seq (.seq (.region c_law28_MergeBytes_R22 false []) (.block 6 .dead)) (.seq (.region c_law28_MergeBytes_R29 false [4, 5, 10, 104]) (.cond (.slot 104) (.seq (.region c_law28_MergeBytes_R30 false [4]) .ret) .skip))))) (.seq (.seq (.region c_law28_MergeBytes_R31 false [4, 5, 105]) (.region c_law28_MergeBytes_R32 false [4, 5, 10])) (.region c_law28_MergeBytes_R20 false [4, 5, 10]))))
def lp_law28_MergeBytes_2 : ACode := .loop [4, 5, 10] c_law28_MergeBytes_L2
def c_law28_MergeBytes_R33 : List AOper := [⟨none, none, .store false 1 (.slot 4) (.const (.bool true))⟩]
def c_law28_MergeBytes : AFn := ⟨(.seq (.region c_law28_MergeBytes_R0 false [0, 4]) (.seq (.seq (.region c_law28_MergeBytes_R1 false [0, 4, 15]) (.cond (.slot 15) (.seq (.region c_law28_MergeBytes_R2 false [4]) .ret) .skip)) (.seq (.seq (.region c_law28_MergeBytes_R3 false [0, 4, 17]) (.cond (.slot 17) (.seq (.region c_law28_MergeBytes_R4 false [4]) .ret) .skip)) (.seq (.region c_law28_MergeBytes_R5 false [0, 4, 5]) (.seq (.seq (.region c_law28_MergeBytes_R6 false [0, 4, 5, 21]) (.cond (.slot 21) (.seq (.region c_law28_MergeBytes_R7 false [4]) .ret) .skip)) (.seq (.region c_law28_MergeBytes_R8 false [0, 4, 5, 6]) (.seq (.region c_law28_MergeBytes_R9 false [0, 4, 5, 6, 7]) (.seq (.seq (.region c_law28_MergeBytes_R10 false [0, 4, 5, 6, 7, 8]) (.block 0 lp_law28_MergeBytes_0)) (.seq (.seq (.region c_law28_MergeBytes_R18 false [4, 5, 10]) (.block 4 lp_law28_MergeBytes_2)) (.seq (.region c_law28_MergeBytes_R33 false [4]) .ret)))))))))), [.cell 4 false 1]⟩
/- oriel/oriellaw28.MergeOrder -/
def c_law28_MergeOrder_R0 : List AOper := [⟨some 2, none, .mov (.const (.bool false))⟩]
def c_law28_MergeOrder_R1 : List AOper := [⟨some 19, none, .call .frz n_law28_known []⟩,
  ⟨some 20, none, .not (.slot 19)⟩]
def c_law28_MergeOrder_R2 : List AOper := [⟨some 2, none, .mov (.const (.bool false))⟩]
def c_law28_MergeOrder_R3 : List AOper := [⟨some 21, none, .mov (.slot 0)⟩,
  ⟨some 22, none, .len false (.slot 21)⟩,
  ⟨some 23, none, .bin .gtr (.slot 22) (.const (.int .i64 150))⟩]
def c_law28_MergeOrder_R4 : List AOper := [⟨some 2, none, .mov (.const (.bool true))⟩]
def c_law28_MergeOrder_R5 : List AOper := [⟨some 3, none, .mov (.const (.data false 3 [] true))⟩]
def c_law28_MergeOrder_R6 : List AOper := [⟨some 4, none, .mknil 1⟩,
  ⟨some 5, none, .mknil 1⟩]
def c_law28_MergeOrder_R7 : List AOper := [⟨some 6, none, .mov (.const (.int .i64 0))⟩]
def c_law28_MergeOrder_R8 : List AOper := [⟨some 7, none, .mov (.const (.int .i64 0))⟩]
def c_law28_MergeOrder_R9 : List AOper := [⟨some 24, none, .mov (.slot 7)⟩,
  ⟨some 25, none, .mov (.slot 0)⟩,
  ⟨some 26, none, .len false (.slot 25)⟩,
  ⟨some 27, none, .bin .lss (.slot 24) (.slot 26)⟩]
def c_law28_MergeOrder_R11 : List AOper := [⟨some 30, none, .mov (.slot 0)⟩,
  ⟨some 31, none, .mov (.slot 7)⟩,
  ⟨some 32, none, .idx 5 (.slot 30) (.slot 31)⟩,
  ⟨some 33, none, .faddr 2 (.slot 32)⟩,
  ⟨some 34, none, .faddr 2 (.slot 33)⟩,
  ⟨some 35, none, .load false 1 (.slot 34)⟩,
  ⟨some 36, none, .len false (.slot 35)⟩,
  ⟨some 37, none, .bin .gtr (.slot 36) (.const (.int .i64 100))⟩]
def c_law28_MergeOrder_R12 : List AOper := [⟨some 2, none, .mov (.const (.bool true))⟩]
def c_law28_MergeOrder_R13 : List AOper := [⟨some 38, none, .mov (.slot 0)⟩,
  ⟨some 39, none, .mov (.slot 7)⟩,
  ⟨some 40, none, .idx 5 (.slot 38) (.slot 39)⟩,
  ⟨some 41, none, .faddr 0 (.slot 40)⟩,
  ⟨some 42, none, .load false 1 (.slot 41)⟩]
def c_law28_MergeOrder_R14 : List AOper := [⟨some 44, none, .bin .eql (.slot 42) (.const (.int .i64 0))⟩,
  ⟨some 43, none, .mov (.slot 44)⟩]
def c_law28_MergeOrder_R15 : List AOper := [⟨some 45, none, .mov (.slot 0)⟩,
  ⟨some 46, none, .mov (.slot 7)⟩,
  ⟨some 47, none, .idx 5 (.slot 45) (.slot 46)⟩,
  ⟨some 48, none, .faddr 2 (.slot 47)⟩,
  ⟨some 49, none, .load true 3 (.slot 48)⟩,
  ⟨some 8, none, .alloc [.int .i64 0, .int .i64 0, .data false 1 [] true]⟩,
  ⟨none, none, .store true 3 (.slot 8) (.slot 49)⟩]
def c_law28_MergeOrder_R16 : List AOper := [⟨some 50, none, .mov (.slot 4)⟩,
  ⟨some 51, none, .len false (.slot 50)⟩,
  ⟨some 52, none, .bin .add (.slot 51) (.const (.int .i64 1))⟩,
  ⟨some 53, none, .faddr 1 (.slot 8)⟩,
  ⟨none, none, .store false 1 (.slot 53) (.slot 52)⟩]
def c_law28_MergeOrder_R17 : List AOper := [⟨some 55, none, .mov (.slot 3)⟩,
  ⟨some 56, none, .load true 3 (.slot 8)⟩,
  ⟨some 57, none, .call .frz n_merge_Push [(.slot 55), (.slot 56)]⟩,
  ⟨some 54, none, .mov (.slot 57)⟩,
  ⟨some 58, none, .extract 0 (.slot 54)⟩,
  ⟨some 59, none, .extract 1 (.slot 54)⟩,
  ⟨some 9, none, .mov (.slot 58)⟩,
  ⟨some 10, none, .mov (.slot 59)⟩]
def c_law28_MergeOrder_R18 : List AOper := [⟨some 60, none, .mov (.slot 4)⟩,
  ⟨some 61, none, .faddr 0 (.slot 8)⟩,
  ⟨some 62, none, .load false 1 (.slot 61)⟩,
  ⟨some 63, none, .mkslice 1 1 [.int .i64 0] [(0, (.slot 62))]⟩,
  ⟨some 64, none, .append 1 8 (.slot 60) (.slot 63)⟩,
  ⟨some 4, none, .mov (.slot 64)⟩]
def c_law28_MergeOrder_R19 : List AOper := [⟨some 65, none, .mov (.slot 5)⟩,
  ⟨some 66, none, .mkslice 1 1 [.int .i64 0] [(0, (.const (.int .i64 0)))]⟩,
  ⟨some 67, none, .append 1 8 (.slot 65) (.slot 66)⟩,
  ⟨some 5, none, .mov (.slot 67)⟩]
def c_law28_MergeOrder_R20 : List AOper := [⟨some 68, none, .mov (.slot 10)⟩]
def c_law28_MergeOrder_R21 : List AOper := [⟨some 69, none, .mov (.slot 5)⟩,
  ⟨some 70, none, .faddr 1 (.slot 8)⟩,
  ⟨some 71, none, .load false 1 (.slot 70)⟩,
  ⟨some 72, none, .bin .sub (.slot 71) (.const (.int .i64 1))⟩,
  ⟨some 73, none, .idx 1 (.slot 69) (.slot 72)⟩,
  ⟨none, none, .store false 1 (.slot 73) (.const (.int .i64 1))⟩]
def c_law28_MergeOrder_R22 : List AOper := [⟨some 74, none, .mov (.slot 9)⟩,
  ⟨some 3, none, .mov (.slot 74)⟩]
def c_law28_MergeOrder_R23 : List AOper := [⟨some 76, none, .bin .eql (.slot 42) (.const (.int .i64 1))⟩,
  ⟨some 75, none, .mov (.slot 76)⟩]
def c_law28_MergeOrder_R24 : List AOper := [⟨some 78, none, .mov (.slot 3)⟩,
  ⟨some 79, none, .mov (.slot 0)⟩,
  ⟨some 80, none, .mov (.slot 7)⟩,
  ⟨some 81, none, .idx 5 (.slot 79) (.slot 80)⟩,
  ⟨some 82, none, .faddr 1 (.slot 81)⟩,
  ⟨some 83, none, .load false 1 (.slot 82)⟩,
  ⟨some 84, none, .call .frz n_merge_Pop [(.slot 78), (.slot 83)]⟩,
  ⟨some 77, none, .mov (.slot 84)⟩,
  ⟨some 85, none, .extract 0 (.slot 77)⟩,
  ⟨some 86, none, .extract 1 (.slot 77)⟩,
  ⟨some 11, none, .mov (.slot 85)⟩,
  ⟨some 12, none, .mov (.slot 86)⟩]
def c_law28_MergeOrder_R25 : List AOper := [⟨some 13, none, .mov (.const (.int .i64 0))⟩]
def c_law28_MergeOrder_R26 : List AOper := [⟨some 87, none, .mov (.slot 13)⟩,
  ⟨some 88, none, .mov (.slot 12)⟩,
  ⟨some 89, none, .len false (.slot 88)⟩,
  ⟨some 90, none, .bin .lss (.slot 87) (.slot 89)⟩]
def c_law28_MergeOrder_R28 : List AOper := [⟨some 93, none, .mov (.slot 12)⟩,
  ⟨some 94, none, .mov (.slot 13)⟩,
  ⟨some 95, none, .idx 3 (.slot 93) (.slot 94)⟩,
  ⟨some 96, none, .faddr 1 (.slot 95)⟩,
  ⟨some 97, none, .load false 1 (.slot 96)⟩,
  ⟨some 14, none, .mov (.slot 97)⟩]
def c_law28_MergeOrder_R29 : List AOper := [⟨some 98, none, .mov (.slot 14)⟩,
  ⟨some 99, none, .mov (.slot 6)⟩,
  ⟨some 100, none, .bin .leq (.slot 98) (.slot 99)⟩,
  ⟨some 101, none, .mov (.slot 100)⟩,
  ⟨some 102, some (101, false), .mov (.slot 14)⟩,
  ⟨some 103, some (101, false), .mov (.slot 4)⟩,
  ⟨some 104, some (101, false), .len false (.slot 103)⟩,
  ⟨some 105, some (101, false), .bin .gtr (.slot 102) (.slot 104)⟩,
  ⟨some 106, none, .pick (.slot 101) (.const (.bool true)) (.slot 105)⟩,
  ⟨some 107, none, .mov (.slot 106)⟩,
  ⟨some 108, some (107, false), .mov (.slot 5)⟩,
  ⟨some 109, some (107, false), .mov (.slot 14)⟩,
  ⟨some 110, some (107, false), .bin .sub (.slot 109) (.const (.int .i64 1))⟩,
  ⟨some 111, some (107, false), .idx 1 (.slot 108) (.slot 110)⟩,
  ⟨some 112, some (107, false), .load false 1 (.slot 111)⟩,
  ⟨some 113, some (107, false), .bin .neq (.slot 112) (.const (.int .i64 1))⟩,
  ⟨some 114, none, .pick (.slot 107) (.const (.bool true)) (.slot 113)⟩,
  ⟨some 115, none, .mov (.slot 114)⟩,
  ⟨some 116, some (115, false), .mov (.slot 4)⟩,
  ⟨some 117, some (115, false), .mov (.slot 14)⟩,
  ⟨some 118, some (115, false), .bin .sub (.slot 117) (.const (.int .i64 1))⟩,
  ⟨some 119, some (115, false), .idx 1 (.slot 116) (.slot 118)⟩,
  ⟨some 120, some (115, false), .load false 1 (.slot 119)⟩,
  ⟨some 121, some (115, false), .mov (.slot 12)⟩,
  ⟨some 122, some (115, false), .mov (.slot 13)⟩,
  ⟨some 123, some (115, false), .idx 3 (.slot 121) (.slot 122)⟩,
  ⟨some 124, some (115, false), .faddr 0 (.slot 123)⟩,
  ⟨some 125, some (115, false), .load false 1 (.slot 124)⟩,
  ⟨some 126, some (115, false), .bin .neq (.slot 120) (.slot 125)⟩,
  ⟨some 127, none, .pick (.slot 115) (.const (.bool true)) (.slot 126)⟩]
def c_law28_MergeOrder_R30 : List AOper := [⟨some 2, none, .mov (.const (.bool false))⟩]
def c_law28_MergeOrder_R31 : List AOper := [⟨some 128, none, .mov (.slot 6)⟩,
  ⟨some 15, none, .mov (.slot 128)⟩]
def c_law28_MergeOrder_R32 : List AOper := [⟨some 129, none, .mov (.slot 15)⟩,
  ⟨some 130, none, .mov (.slot 14)⟩,
  ⟨some 131, none, .bin .sub (.slot 130) (.const (.int .i64 1))⟩,
  ⟨some 132, none, .bin .lss (.slot 129) (.slot 131)⟩]
def c_law28_MergeOrder_R34 : List AOper := [⟨some 135, none, .mov (.slot 5)⟩,
  ⟨some 136, none, .mov (.slot 15)⟩,
  ⟨some 137, none, .idx 1 (.slot 135) (.slot 136)⟩,
  ⟨some 138, none, .load false 1 (.slot 137)⟩,
  ⟨some 139, none, .bin .eql (.slot 138) (.const (.int .i64 1))⟩]
def c_law28_MergeOrder_R35 : List AOper := [⟨some 2, none, .mov (.const (.bool false))⟩]
def c_law28_MergeOrder_R33 : List AOper := [⟨some 133, none, .mov (.slot 15)⟩,
  ⟨some 134, none, .bin .add (.slot 133) (.const (.int .i64 1))⟩,
  ⟨some 15, none, .mov (.slot 134)⟩]
def c_law28_MergeOrder_L2 : ACode := (.seq (.seq (.region c_law28_MergeOrder_R32 false [0, 4, 5, 7, 11, 12, 13, 14, 15, 132]) (.cond (.slot 132) .skip (.exit 5))) (.seq (.block 6 (.seq (.region c_law28_MergeOrder_R34 false [0, 4, 5, 7, 11, 12, 13, 14, 15, 139]) (.cond (.slot 139) (.seq (.region c_law28_MergeOrder_R35 false [2]) .ret) .skip))) (.region c_law28_MergeOrder_R33 false [0, 4, 5, 7, 11, 12, 13, 14, 15])))
def lp_law28_MergeOrder_2 : ACode := .loop [0, 4, 5, 7, 11, 12, 13, 14, 15] c_law28_MergeOrder_L2
def c_law28_MergeOrder_R36 : List AOper := [⟨some 140, none, .mov (.slot 5)⟩,
  ⟨some 141, none, .mov (.slot 14)⟩,
  ⟨some 142, none, .bin .sub (.slot 141) (.const (.int .i64 1))⟩,
  ⟨some 143, none, .idx 1 (.slot 140) (.slot 142)⟩,
  ⟨none, none, .store false 1 (.slot 143) (.const (.int .i64 2))⟩]
def c_law28_MergeOrder_R37 : List AOper := [⟨some 144, none, .mov (.slot 14)⟩,
  ⟨some 6, none, .mov (.slot 144)⟩]
def c_law28_MergeOrder_R27 : List AOper := [⟨some 91, none, .mov (.slot 13)⟩,
  ⟨some 92, none, .bin .add (.slot 91) (.const (.int .i64 1))⟩,
  ⟨some 13, none, .mov (.slot 92)⟩]
def c_law28_MergeOrder_L1 : ACode := (.seq (.seq (.region c_law28_MergeOrder_R26 false [0, 4, 5, 6, 7, 11, 12, 13, 90]) (.cond (.slot 90) .skip (.exit 3))) (.seq (.block 4 (.seq (.region c_law28_MergeOrder_R28 false [0, 4, 5, 6, 7, 11, 12, 13, 14]) (.seq (.seq (.region c_law28_MergeOrder_R29 true [0, 4, 5, 6, 7, 11, 12, 13, 14, 127]) (.cond (.slot 127) (.seq (.region c_law28_MergeOrder_R30 false [2]) .ret) .skip)) (.seq (.seq (.region c_law28_MergeOrder_R31 false [0, 4, 5, 7, 11, 12, 13, 14, 15]) (.block 5 lp_law28_MergeOrder_2)) (.seq (.region c_law28_MergeOrder_R36 false [0, 4, 5, 7, 11, 12, 13, 14]) (.region c_law28_MergeOrder_R37 false [0, 4, 5, 6, 7, 11, 12, 13])))))) (.region c_law28_MergeOrder_R27 false [0, 4, 5, 6, 7, 11, 12, 13])))
def lp_law28_MergeOrder_1 : ACode := .loop [0, 4, 5, 6, 7, 11, 12, 13] c_law28_MergeOrder_L1
def c_law28_MergeOrder_R38 : List AOper := [⟨some 145, none, .mov (.slot 11)⟩,
  ⟨some 3, none, .mov (.slot 145)⟩]
def c_law28_MergeOrder_R39 : List AOper := [⟨some 147, none, .bin .eql (.slot 42) (.const (.int .i64 2))⟩,
  ⟨some 146, none, .mov (.slot 147)⟩]
def c_law28_MergeOrder_R40 : List AOper := [⟨some 148, none, .mov (.slot 3)⟩,
  ⟨some 149, none, .mov (.slot 0)⟩,
  ⟨some 150, none, .mov (.slot 7)⟩,
  ⟨some 151, none, .idx 5 (.slot 149) (.slot 150)⟩,
  ⟨some 152, none, .faddr 1 (.slot 151)⟩,
  ⟨some 153, none, .load false 1 (.slot 152)⟩,
  ⟨some 154, none, .call .frz n_merge_Drop [(.slot 148), (.slot 153)]⟩,
  ⟨some 3, none, .mov (.slot 154)⟩]
def c_law28_MergeOrder_R41 : List AOper := [⟨some 16, none, .mov (.const (.int .i64 0))⟩]
def c_law28_MergeOrder_R42 : List AOper := [⟨some 155, none, .mov (.slot 16)⟩,
  ⟨some 156, none, .mov (.slot 4)⟩,
  ⟨some 157, none, .len false (.slot 156)⟩,
  ⟨some 158, none, .bin .lss (.slot 155) (.slot 157)⟩]
def c_law28_MergeOrder_R44 : List AOper := [⟨some 161, none, .mov (.slot 4)⟩,
  ⟨some 162, none, .mov (.slot 16)⟩,
  ⟨some 163, none, .idx 1 (.slot 161) (.slot 162)⟩,
  ⟨some 164, none, .load false 1 (.slot 163)⟩,
  ⟨some 165, none, .mov (.slot 0)⟩,
  ⟨some 166, none, .mov (.slot 7)⟩,
  ⟨some 167, none, .idx 5 (.slot 165) (.slot 166)⟩,
  ⟨some 168, none, .faddr 1 (.slot 167)⟩,
  ⟨some 169, none, .load false 1 (.slot 168)⟩,
  ⟨some 170, none, .bin .eql (.slot 164) (.slot 169)⟩,
  ⟨some 171, none, .mov (.slot 170)⟩,
  ⟨some 172, some (171, true), .mov (.slot 5)⟩,
  ⟨some 173, some (171, true), .mov (.slot 16)⟩,
  ⟨some 174, some (171, true), .idx 1 (.slot 172) (.slot 173)⟩,
  ⟨some 175, some (171, true), .load false 1 (.slot 174)⟩,
  ⟨some 176, some (171, true), .bin .eql (.slot 175) (.const (.int .i64 1))⟩,
  ⟨some 177, none, .pick (.slot 171) (.slot 176) (.const (.bool false))⟩]
def c_law28_MergeOrder_R45 : List AOper := [⟨some 178, none, .mov (.slot 5)⟩,
  ⟨some 179, none, .mov (.slot 16)⟩,
  ⟨some 180, none, .idx 1 (.slot 178) (.slot 179)⟩,
  ⟨none, none, .store false 1 (.slot 180) (.const (.int .i64 0))⟩]
def c_law28_MergeOrder_R43 : List AOper := [⟨some 159, none, .mov (.slot 16)⟩,
  ⟨some 160, none, .bin .add (.slot 159) (.const (.int .i64 1))⟩,
  ⟨some 16, none, .mov (.slot 160)⟩]
def c_law28_MergeOrder_L3 : ACode := (.seq (.seq (.region c_law28_MergeOrder_R42 false [0, 3, 4, 5, 6, 7, 16, 158]) (.cond (.slot 158) .skip (.exit 7))) (.seq (.block 8 (.seq (.region c_law28_MergeOrder_R44 true [0, 3, 4, 5, 6, 7, 16, 177]) (.cond (.slot 177) (.region c_law28_MergeOrder_R45 false [0, 3, 4, 5, 6, 7, 16]) .skip))) (.region c_law28_MergeOrder_R43 false [0, 3, 4, 5, 6, 7, 16])))
def lp_law28_MergeOrder_3 : ACode := .loop [0, 3, 4, 5, 6, 7, 16] c_law28_MergeOrder_L3
def c_law28_MergeOrder_R46 : List AOper := [⟨some 17, none, .mov (.const (.int .i64 0))⟩]
def c_law28_MergeOrder_R47 : List AOper := [⟨some 18, none, .mov (.const (.int .i64 0))⟩]
def c_law28_MergeOrder_R48 : List AOper := [⟨some 181, none, .mov (.slot 18)⟩,
  ⟨some 182, none, .mov (.slot 5)⟩,
  ⟨some 183, none, .len false (.slot 182)⟩,
  ⟨some 184, none, .bin .lss (.slot 181) (.slot 183)⟩]
def c_law28_MergeOrder_R50 : List AOper := [⟨some 187, none, .mov (.slot 5)⟩,
  ⟨some 188, none, .mov (.slot 18)⟩,
  ⟨some 189, none, .idx 1 (.slot 187) (.slot 188)⟩,
  ⟨some 190, none, .load false 1 (.slot 189)⟩,
  ⟨some 191, none, .bin .eql (.slot 190) (.const (.int .i64 1))⟩]
def c_law28_MergeOrder_R51 : List AOper := [⟨some 192, none, .mov (.slot 17)⟩,
  ⟨some 193, none, .bin .add (.slot 192) (.const (.int .i64 1))⟩,
  ⟨some 17, none, .mov (.slot 193)⟩]
def c_law28_MergeOrder_R49 : List AOper := [⟨some 185, none, .mov (.slot 18)⟩,
  ⟨some 186, none, .bin .add (.slot 185) (.const (.int .i64 1))⟩,
  ⟨some 18, none, .mov (.slot 186)⟩]
def c_law28_MergeOrder_L4 : ACode := (.seq (.seq (.region c_law28_MergeOrder_R48 false [0, 3, 4, 5, 6, 7, 17, 18, 184]) (.cond (.slot 184) .skip (.exit 9))) (.seq (.block 10 (.seq (.region c_law28_MergeOrder_R50 false [0, 3, 4, 5, 6, 7, 17, 18, 191]) (.cond (.slot 191) (.region c_law28_MergeOrder_R51 false [0, 3, 4, 5, 6, 7, 17, 18]) .skip))) (.region c_law28_MergeOrder_R49 false [0, 3, 4, 5, 6, 7, 17, 18])))
def lp_law28_MergeOrder_4 : ACode := .loop [0, 3, 4, 5, 6, 7, 17, 18] c_law28_MergeOrder_L4
def c_law28_MergeOrder_R52 : List AOper := [⟨some 194, none, .mov (.slot 3)⟩,
  ⟨some 195, none, .call .frz n_merge_May [(.slot 194)]⟩,
  ⟨some 196, none, .not (.slot 195)⟩,
  ⟨some 197, none, .mov (.slot 196)⟩,
  ⟨some 198, some (197, false), .mov (.slot 3)⟩,
  ⟨some 199, some (197, false), .len false (.slot 198)⟩,
  ⟨some 200, some (197, false), .mov (.slot 17)⟩,
  ⟨some 201, some (197, false), .bin .neq (.slot 199) (.slot 200)⟩,
  ⟨some 202, none, .pick (.slot 197) (.const (.bool true)) (.slot 201)⟩,
  ⟨some 203, none, .mov (.slot 202)⟩,
  ⟨some 204, some (203, false), .mov (.slot 3)⟩,
  ⟨some 205, some (203, false), .call .frz n_merge_Size [(.slot 204)]⟩,
  ⟨some 206, some (203, false), .bin .gtr (.slot 205) (.const (.int .i64 64))⟩,
  ⟨some 207, none, .pick (.slot 203) (.const (.bool true)) (.slot 206)⟩]
def c_law28_MergeOrder_R53 : List AOper := [⟨some 2, none, .mov (.const (.bool false))⟩]
def c_law28_MergeOrder_R10 : List AOper := [⟨some 28, none, .mov (.slot 7)⟩,
  ⟨some 29, none, .bin .add (.slot 28) (.const (.int .i64 1))⟩,
  ⟨some 7, none, .mov (.slot 29)⟩]
def c_law28_MergeOrder_L0 : ACode := (.seq (.seq (.region c_law28_MergeOrder_R9 false [0, 3, 4, 5, 6, 7, 27]) (.cond (.slot 27) .skip (.exit 0))) (.seq (.block 1 (.seq (.seq (.region c_law28_MergeOrder_R11 false [0, 3, 4, 5, 6, 7, 37]) (.cond (.slot 37) (.seq (.region c_law28_MergeOrder_R12 false [2]) .ret) .skip)) (.seq (.seq (.region c_law28_MergeOrder_R13 false [0, 3, 4, 5, 6, 7, 42]) (.block 2 (.seq (.region c_law28_MergeOrder_R14 false [0, 3, 4, 5, 6, 7, 42, 43]) (.cond (.slot 43) (.seq (.region c_law28_MergeOrder_R15 false [0, 3, 4, 5, 6, 7, 8]) (.seq (.region c_law28_MergeOrder_R16 false [0, 3, 4, 5, 6, 7, 8]) (.seq (.region c_law28_MergeOrder_R17 false [0, 4, 5, 6, 7, 8, 9, 10]) (.seq (.region c_law28_MergeOrder_R18 false [0, 4, 5, 6, 7, 8, 9, 10]) (.seq (.region c_law28_MergeOrder_R19 false [0, 4, 5, 6, 7, 8, 9, 10]) (.seq (.seq (.region c_law28_MergeOrder_R20 false [0, 4, 5, 6, 7, 8, 9, 68]) (.cond (.slot 68) (.region c_law28_MergeOrder_R21 false [0, 4, 5, 6, 7, 9]) .skip)) (.region c_law28_MergeOrder_R22 false [0, 3, 4, 5, 6, 7]))))))) (.seq (.region c_law28_MergeOrder_R23 false [0, 3, 4, 5, 6, 7, 42, 75]) (.cond (.slot 75) (.seq (.region c_law28_MergeOrder_R24 false [0, 4, 5, 6, 7, 11, 12]) (.seq (.seq (.region c_law28_MergeOrder_R25 false [0, 4, 5, 6, 7, 11, 12, 13]) (.block 3 lp_law28_MergeOrder_1)) (.region c_law28_MergeOrder_R38 false [0, 3, 4, 5, 6, 7]))) (.seq (.region c_law28_MergeOrder_R39 false [0, 3, 4, 5, 6, 7, 146]) (.cond (.slot 146) (.seq (.region c_law28_MergeOrder_R40 false [0, 3, 4, 5, 6, 7]) (.seq (.region c_law28_MergeOrder_R41 false [0, 3, 4, 5, 6, 7, 16]) (.block 7 lp_law28_MergeOrder_3))) .skip)))))))) (.seq (.region c_law28_MergeOrder_R46 false [0, 3, 4, 5, 6, 7, 17]) (.seq (.seq (.region c_law28_MergeOrder_R47 false [0, 3, 4, 5, 6, 7, 17, 18]) (.block 9 lp_law28_MergeOrder_4)) (.seq (.region c_law28_MergeOrder_R52 false [0, 3, 4, 5, 6, 7, 207]) (.cond (.slot 207) (.seq (.region c_law28_MergeOrder_R53 false [2]) .ret) .skip))))))) (.region c_law28_MergeOrder_R10 false [0, 3, 4, 5, 6, 7])))
def lp_law28_MergeOrder_0 : ACode := .loop [0, 3, 4, 5, 6, 7] c_law28_MergeOrder_L0
def c_law28_MergeOrder_R54 : List AOper := [⟨some 2, none, .mov (.const (.bool true))⟩]
def c_law28_MergeOrder : AFn := ⟨(.seq (.region c_law28_MergeOrder_R0 false [0]) (.seq (.seq (.region c_law28_MergeOrder_R1 false [0, 20]) (.cond (.slot 20) (.seq (.region c_law28_MergeOrder_R2 false [2]) .ret) .skip)) (.seq (.seq (.region c_law28_MergeOrder_R3 false [0, 23]) (.cond (.slot 23) (.seq (.region c_law28_MergeOrder_R4 false [2]) .ret) .skip)) (.seq (.region c_law28_MergeOrder_R5 false [0, 3]) (.seq (.region c_law28_MergeOrder_R6 false [0, 3, 4, 5]) (.seq (.region c_law28_MergeOrder_R7 false [0, 3, 4, 5, 6]) (.seq (.seq (.region c_law28_MergeOrder_R8 false [0, 3, 4, 5, 6, 7]) (.block 0 lp_law28_MergeOrder_0)) (.seq (.region c_law28_MergeOrder_R54 false [2]) .ret)))))))), [.slot 2]⟩
/- oriel/oriellaw28.MergeParts -/
def c_law28_MergeParts_R0 : List AOper := [⟨some 8, none, .mov (.const (.bool false))⟩]
def c_law28_MergeParts_R1 : List AOper := [⟨some 18, none, .call .frz n_law28_known []⟩,
  ⟨some 19, none, .not (.slot 18)⟩]
def c_law28_MergeParts_R2 : List AOper := [⟨some 8, none, .mov (.const (.bool false))⟩]
def c_law28_MergeParts_R3 : List AOper := [⟨some 20, none, .mov (.slot 0)⟩,
  ⟨some 21, none, .call .frz n_law28_great [(.slot 20)]⟩,
  ⟨some 22, none, .mov (.slot 21)⟩,
  ⟨some 23, some (22, false), .mov (.slot 0)⟩,
  ⟨some 24, some (22, false), .call .frz n_merge_May [(.slot 23)]⟩,
  ⟨some 25, some (22, false), .not (.slot 24)⟩,
  ⟨some 26, none, .pick (.slot 22) (.const (.bool true)) (.slot 25)⟩]
def c_law28_MergeParts_R4 : List AOper := [⟨some 8, none, .mov (.const (.bool true))⟩]
def c_law28_MergeParts_R5 : List AOper := [⟨some 28, none, .mov (.slot 0)⟩,
  ⟨some 29, none, .mov (.slot 1)⟩,
  ⟨some 30, none, .call .frz n_merge_Pop [(.slot 28), (.slot 29)]⟩,
  ⟨some 27, none, .mov (.slot 30)⟩,
  ⟨some 31, none, .extract 0 (.slot 27)⟩,
  ⟨some 32, none, .extract 1 (.slot 27)⟩,
  ⟨some 9, none, .mov (.slot 31)⟩,
  ⟨some 10, none, .mov (.slot 32)⟩]
def c_law28_MergeParts_R6 : List AOper := [⟨some 34, none, .mov (.slot 9)⟩,
  ⟨some 35, none, .mov (.slot 2)⟩,
  ⟨some 36, none, .call .frz n_merge_Pop [(.slot 34), (.slot 35)]⟩,
  ⟨some 33, none, .mov (.slot 36)⟩,
  ⟨some 37, none, .extract 0 (.slot 33)⟩,
  ⟨some 38, none, .extract 1 (.slot 33)⟩,
  ⟨some 11, none, .mov (.slot 37)⟩,
  ⟨some 12, none, .mov (.slot 38)⟩]
def c_law28_MergeParts_R7 : List AOper := [⟨some 39, none, .mov (.slot 10)⟩,
  ⟨some 40, none, .len false (.slot 39)⟩,
  ⟨some 41, none, .mov (.slot 9)⟩,
  ⟨some 42, none, .len false (.slot 41)⟩,
  ⟨some 43, none, .bin .add (.slot 40) (.slot 42)⟩,
  ⟨some 44, none, .mov (.slot 0)⟩,
  ⟨some 45, none, .len false (.slot 44)⟩,
  ⟨some 46, none, .bin .neq (.slot 43) (.slot 45)⟩,
  ⟨some 47, none, .mov (.slot 46)⟩,
  ⟨some 48, some (47, false), .mov (.slot 12)⟩,
  ⟨some 49, some (47, false), .len false (.slot 48)⟩,
  ⟨some 50, some (47, false), .mov (.slot 11)⟩,
  ⟨some 51, some (47, false), .len false (.slot 50)⟩,
  ⟨some 52, some (47, false), .bin .add (.slot 49) (.slot 51)⟩,
  ⟨some 53, some (47, false), .mov (.slot 9)⟩,
  ⟨some 54, some (47, false), .len false (.slot 53)⟩,
  ⟨some 55, some (47, false), .bin .neq (.slot 52) (.slot 54)⟩,
  ⟨some 56, none, .pick (.slot 47) (.const (.bool true)) (.slot 55)⟩,
  ⟨some 57, none, .mov (.slot 56)⟩,
  ⟨some 58, some (57, false), .mov (.slot 10)⟩,
  ⟨some 59, some (57, false), .call .frz n_merge_Size [(.slot 58)]⟩,
  ⟨some 60, some (57, false), .mov (.slot 1)⟩,
  ⟨some 61, some (57, false), .max (.const (.int .i64 0)) (.slot 60)⟩,
  ⟨some 62, some (57, false), .bin .gtr (.slot 59) (.slot 61)⟩,
  ⟨some 63, none, .pick (.slot 57) (.const (.bool true)) (.slot 62)⟩,
  ⟨some 64, none, .mov (.slot 63)⟩,
  ⟨some 65, some (64, false), .mov (.slot 10)⟩,
  ⟨some 66, some (64, false), .call .frz n_merge_Size [(.slot 65)]⟩,
  ⟨some 67, some (64, false), .mov (.slot 9)⟩,
  ⟨some 68, some (64, false), .call .frz n_merge_Size [(.slot 67)]⟩,
  ⟨some 69, some (64, false), .bin .add (.slot 66) (.slot 68)⟩,
  ⟨some 70, some (64, false), .mov (.slot 0)⟩,
  ⟨some 71, some (64, false), .call .frz n_merge_Size [(.slot 70)]⟩,
  ⟨some 72, some (64, false), .bin .neq (.slot 69) (.slot 71)⟩,
  ⟨some 73, none, .pick (.slot 64) (.const (.bool true)) (.slot 72)⟩]
def c_law28_MergeParts_R8 : List AOper := [⟨some 8, none, .mov (.const (.bool false))⟩]
def c_law28_MergeParts_R9 : List AOper := [⟨some 74, none, .mkslice 3 0 [.int .i64 0, .int .i64 0, .data false 1 [] true] []⟩,
  ⟨some 75, none, .mov (.slot 10)⟩,
  ⟨some 76, none, .append 3 40 (.slot 74) (.slot 75)⟩,
  ⟨some 77, none, .mov (.slot 12)⟩,
  ⟨some 78, none, .append 3 40 (.slot 76) (.slot 77)⟩,
  ⟨some 79, none, .mov (.slot 11)⟩,
  ⟨some 80, none, .append 3 40 (.slot 78) (.slot 79)⟩,
  ⟨some 13, none, .mov (.slot 80)⟩]
def c_law28_MergeParts_R10 : List AOper := [⟨some 14, none, .mov (.const (.int .i64 0))⟩]
def c_law28_MergeParts_R11 : List AOper := [⟨some 81, none, .mov (.slot 14)⟩,
  ⟨some 82, none, .mov (.slot 0)⟩,
  ⟨some 83, none, .len false (.slot 82)⟩,
  ⟨some 84, none, .bin .lss (.slot 81) (.slot 83)⟩]
def c_law28_MergeParts_R13 : List AOper := [⟨some 87, none, .mov (.slot 13)⟩,
  ⟨some 88, none, .mov (.slot 14)⟩,
  ⟨some 89, none, .idx 3 (.slot 87) (.slot 88)⟩,
  ⟨some 90, none, .faddr 0 (.slot 89)⟩,
  ⟨some 91, none, .load false 1 (.slot 90)⟩,
  ⟨some 92, none, .mov (.slot 0)⟩,
  ⟨some 93, none, .mov (.slot 14)⟩,
  ⟨some 94, none, .idx 3 (.slot 92) (.slot 93)⟩,
  ⟨some 95, none, .faddr 0 (.slot 94)⟩,
  ⟨some 96, none, .load false 1 (.slot 95)⟩,
  ⟨some 97, none, .bin .neq (.slot 91) (.slot 96)⟩,
  ⟨some 98, none, .mov (.slot 97)⟩,
  ⟨some 99, some (98, false), .mov (.slot 13)⟩,
  ⟨some 100, some (98, false), .mov (.slot 14)⟩,
  ⟨some 101, some (98, false), .idx 3 (.slot 99) (.slot 100)⟩,
  ⟨some 102, some (98, false), .faddr 1 (.slot 101)⟩,
  ⟨some 103, some (98, false), .load false 1 (.slot 102)⟩,
  ⟨some 104, some (98, false), .mov (.slot 0)⟩,
  ⟨some 105, some (98, false), .mov (.slot 14)⟩,
  ⟨some 106, some (98, false), .idx 3 (.slot 104) (.slot 105)⟩,
  ⟨some 107, some (98, false), .faddr 1 (.slot 106)⟩,
  ⟨some 108, some (98, false), .load false 1 (.slot 107)⟩,
  ⟨some 109, some (98, false), .bin .neq (.slot 103) (.slot 108)⟩,
  ⟨some 110, none, .pick (.slot 98) (.const (.bool true)) (.slot 109)⟩,
  ⟨some 111, none, .mov (.slot 110)⟩,
  ⟨some 112, some (111, false), .mov (.slot 13)⟩,
  ⟨some 113, some (111, false), .mov (.slot 14)⟩,
  ⟨some 114, some (111, false), .idx 3 (.slot 112) (.slot 113)⟩,
  ⟨some 115, some (111, false), .faddr 2 (.slot 114)⟩,
  ⟨some 116, some (111, false), .load false 1 (.slot 115)⟩,
  ⟨some 117, some (111, false), .bstr (.slot 116)⟩,
  ⟨some 118, some (111, false), .mov (.slot 0)⟩,
  ⟨some 119, some (111, false), .mov (.slot 14)⟩,
  ⟨some 120, some (111, false), .idx 3 (.slot 118) (.slot 119)⟩,
  ⟨some 121, some (111, false), .faddr 2 (.slot 120)⟩,
  ⟨some 122, some (111, false), .load false 1 (.slot 121)⟩,
  ⟨some 123, some (111, false), .bstr (.slot 122)⟩,
  ⟨some 124, some (111, false), .eq false [.ks] true (.slot 117) (.slot 123)⟩,
  ⟨some 125, none, .pick (.slot 111) (.const (.bool true)) (.slot 124)⟩]
def c_law28_MergeParts_R14 : List AOper := [⟨some 8, none, .mov (.const (.bool false))⟩]
def c_law28_MergeParts_R12 : List AOper := [⟨some 85, none, .mov (.slot 14)⟩,
  ⟨some 86, none, .bin .add (.slot 85) (.const (.int .i64 1))⟩,
  ⟨some 14, none, .mov (.slot 86)⟩]
def c_law28_MergeParts_L0 : ACode := (.seq (.seq (.region c_law28_MergeParts_R11 false [0, 1, 3, 9, 10, 13, 14, 84]) (.cond (.slot 84) .skip (.exit 0))) (.seq (.block 1 (.seq (.region c_law28_MergeParts_R13 true [0, 1, 3, 9, 10, 13, 14, 125]) (.cond (.slot 125) (.seq (.region c_law28_MergeParts_R14 false [8]) .ret) .skip))) (.region c_law28_MergeParts_R12 false [0, 1, 3, 9, 10, 13, 14])))
def lp_law28_MergeParts_0 : ACode := .loop [0, 1, 3, 9, 10, 13, 14] c_law28_MergeParts_L0
def c_law28_MergeParts_R15 : List AOper := [⟨some 126, none, .mov (.slot 9)⟩,
  ⟨some 127, none, .len false (.slot 126)⟩,
  ⟨some 128, none, .bin .gtr (.slot 127) (.const (.int .i64 0))⟩,
  ⟨some 129, none, .mov (.slot 128)⟩,
  ⟨some 130, some (129, true), .mov (.slot 1)⟩,
  ⟨some 131, some (129, true), .bin .geq (.slot 130) (.const (.int .i64 0))⟩,
  ⟨some 132, none, .pick (.slot 129) (.slot 131) (.const (.bool false))⟩,
  ⟨some 133, none, .mov (.slot 132)⟩,
  ⟨some 134, some (133, true), .mov (.slot 10)⟩,
  ⟨some 135, some (133, true), .call .frz n_merge_Size [(.slot 134)]⟩,
  ⟨some 136, some (133, true), .mov (.slot 9)⟩,
  ⟨some 137, some (133, true), .idx 3 (.slot 136) (.const (.int .i64 0))⟩,
  ⟨some 138, some (133, true), .faddr 2 (.slot 137)⟩,
  ⟨some 139, some (133, true), .load false 1 (.slot 138)⟩,
  ⟨some 140, some (133, true), .len false (.slot 139)⟩,
  ⟨some 141, some (133, true), .bin .add (.slot 135) (.slot 140)⟩,
  ⟨some 142, some (133, true), .mov (.slot 1)⟩,
  ⟨some 143, some (133, true), .bin .leq (.slot 141) (.slot 142)⟩,
  ⟨some 144, none, .pick (.slot 133) (.slot 143) (.const (.bool false))⟩]
def c_law28_MergeParts_R16 : List AOper := [⟨some 8, none, .mov (.const (.bool false))⟩]
def c_law28_MergeParts_R17 : List AOper := [⟨some 145, none, .mov (.slot 0)⟩,
  ⟨some 146, none, .mov (.slot 3)⟩,
  ⟨some 147, none, .call .frz n_merge_Drop [(.slot 145), (.slot 146)]⟩,
  ⟨some 15, none, .mov (.slot 147)⟩]
def c_law28_MergeParts_R18 : List AOper := [⟨some 16, none, .mov (.const (.int .i64 0))⟩]
def c_law28_MergeParts_R19 : List AOper := [⟨some 17, none, .mov (.const (.int .i64 0))⟩]
def c_law28_MergeParts_R20 : List AOper := [⟨some 148, none, .mov (.slot 17)⟩,
  ⟨some 149, none, .mov (.slot 0)⟩,
  ⟨some 150, none, .len false (.slot 149)⟩,
  ⟨some 151, none, .bin .lss (.slot 148) (.slot 150)⟩]
def c_law28_MergeParts_R22 : List AOper := [⟨some 154, none, .mov (.slot 0)⟩,
  ⟨some 155, none, .mov (.slot 17)⟩,
  ⟨some 156, none, .idx 3 (.slot 154) (.slot 155)⟩,
  ⟨some 157, none, .faddr 0 (.slot 156)⟩,
  ⟨some 158, none, .load false 1 (.slot 157)⟩,
  ⟨some 159, none, .mov (.slot 3)⟩,
  ⟨some 160, none, .bin .eql (.slot 158) (.slot 159)⟩]
def c_law28_MergeParts_R23 : List AOper := [⟨some 161, none, .mov (.slot 16)⟩,
  ⟨some 162, none, .mov (.slot 15)⟩,
  ⟨some 163, none, .len false (.slot 162)⟩,
  ⟨some 164, none, .bin .geq (.slot 161) (.slot 163)⟩,
  ⟨some 165, none, .mov (.slot 164)⟩,
  ⟨some 166, some (165, false), .mov (.slot 15)⟩,
  ⟨some 167, some (165, false), .mov (.slot 16)⟩,
  ⟨some 168, some (165, false), .idx 3 (.slot 166) (.slot 167)⟩,
  ⟨some 169, some (165, false), .faddr 0 (.slot 168)⟩,
  ⟨some 170, some (165, false), .load false 1 (.slot 169)⟩,
  ⟨some 171, some (165, false), .mov (.slot 0)⟩,
  ⟨some 172, some (165, false), .mov (.slot 17)⟩,
  ⟨some 173, some (165, false), .idx 3 (.slot 171) (.slot 172)⟩,
  ⟨some 174, some (165, false), .faddr 0 (.slot 173)⟩,
  ⟨some 175, some (165, false), .load false 1 (.slot 174)⟩,
  ⟨some 176, some (165, false), .bin .neq (.slot 170) (.slot 175)⟩,
  ⟨some 177, none, .pick (.slot 165) (.const (.bool true)) (.slot 176)⟩,
  ⟨some 178, none, .mov (.slot 177)⟩,
  ⟨some 179, some (178, false), .mov (.slot 15)⟩,
  ⟨some 180, some (178, false), .mov (.slot 16)⟩,
  ⟨some 181, some (178, false), .idx 3 (.slot 179) (.slot 180)⟩,
  ⟨some 182, some (178, false), .faddr 1 (.slot 181)⟩,
  ⟨some 183, some (178, false), .load false 1 (.slot 182)⟩,
  ⟨some 184, some (178, false), .mov (.slot 0)⟩,
  ⟨some 185, some (178, false), .mov (.slot 17)⟩,
  ⟨some 186, some (178, false), .idx 3 (.slot 184) (.slot 185)⟩,
  ⟨some 187, some (178, false), .faddr 1 (.slot 186)⟩,
  ⟨some 188, some (178, false), .load false 1 (.slot 187)⟩,
  ⟨some 189, some (178, false), .bin .neq (.slot 183) (.slot 188)⟩,
  ⟨some 190, none, .pick (.slot 178) (.const (.bool true)) (.slot 189)⟩]
def c_law28_MergeParts_R24 : List AOper := [⟨some 8, none, .mov (.const (.bool false))⟩]
def c_law28_MergeParts_R25 : List AOper := [⟨some 191, none, .mov (.slot 16)⟩,
  ⟨some 192, none, .bin .add (.slot 191) (.const (.int .i64 1))⟩,
  ⟨some 16, none, .mov (.slot 192)⟩]
def c_law28_MergeParts_R21 : List AOper := [⟨some 152, none, .mov (.slot 17)⟩,
  ⟨some 153, none, .bin .add (.slot 152) (.const (.int .i64 1))⟩,
  ⟨some 17, none, .mov (.slot 153)⟩]
def c_law28_MergeParts_L1 : ACode := (.seq (.seq (.region c_law28_MergeParts_R20 false [0, 3, 15, 16, 17, 151]) (.cond (.slot 151) .skip (.exit 2))) (.seq (.block 3 (.seq (.seq (.region c_law28_MergeParts_R22 false [0, 3, 15, 16, 17, 160]) (.cond (.slot 160) (.exit 3) .skip)) (.seq (.seq (.region c_law28_MergeParts_R23 true [0, 3, 15, 16, 17, 190]) (.cond (.slot 190) (.seq (.region c_law28_MergeParts_R24 false [8]) .ret) .skip)) (.region c_law28_MergeParts_R25 false [0, 3, 15, 16, 17])))) (.region c_law28_MergeParts_R21 false [0, 3, 15, 16, 17])))
def lp_law28_MergeParts_1 : ACode := .loop [0, 3, 15, 16, 17] c_law28_MergeParts_L1
def c_law28_MergeParts_R26 : List AOper := [⟨some 193, none, .mov (.slot 16)⟩,
  ⟨some 194, none, .mov (.slot 15)⟩,
  ⟨some 195, none, .len false (.slot 194)⟩,
  ⟨some 196, none, .bin .eql (.slot 193) (.slot 195)⟩,
  ⟨some 8, none, .mov (.slot 196)⟩]
def c_law28_MergeParts : AFn := ⟨(.seq (.region c_law28_MergeParts_R0 false [0, 1, 2, 3]) (.seq (.seq (.region c_law28_MergeParts_R1 false [0, 1, 2, 3, 19]) (.cond (.slot 19) (.seq (.region c_law28_MergeParts_R2 false [8]) .ret) .skip)) (.seq (.seq (.region c_law28_MergeParts_R3 false [0, 1, 2, 3, 26]) (.cond (.slot 26) (.seq (.region c_law28_MergeParts_R4 false [8]) .ret) .skip)) (.seq (.region c_law28_MergeParts_R5 false [0, 1, 2, 3, 9, 10]) (.seq (.region c_law28_MergeParts_R6 false [0, 1, 3, 9, 10, 11, 12]) (.seq (.seq (.region c_law28_MergeParts_R7 false [0, 1, 3, 9, 10, 11, 12, 73]) (.cond (.slot 73) (.seq (.region c_law28_MergeParts_R8 false [8]) .ret) .skip)) (.seq (.region c_law28_MergeParts_R9 false [0, 1, 3, 9, 10, 13]) (.seq (.seq (.region c_law28_MergeParts_R10 false [0, 1, 3, 9, 10, 13, 14]) (.block 0 lp_law28_MergeParts_0)) (.seq (.seq (.region c_law28_MergeParts_R15 true [0, 3, 144]) (.cond (.slot 144) (.seq (.region c_law28_MergeParts_R16 false [8]) .ret) .skip)) (.seq (.region c_law28_MergeParts_R17 false [0, 3, 15]) (.seq (.region c_law28_MergeParts_R18 false [0, 3, 15, 16]) (.seq (.seq (.region c_law28_MergeParts_R19 false [0, 3, 15, 16, 17]) (.block 2 lp_law28_MergeParts_1)) (.seq (.region c_law28_MergeParts_R26 false [8]) .ret))))))))))))), [.slot 8]⟩
/- oriel/token.number -/
def c_token_number_R0 : List AOper := [⟨some 2, none, .mov (.const (.bool false))⟩]
def c_token_number_R1 : List AOper := [⟨some 3, none, .mov (.slot 0)⟩,
  ⟨some 4, none, .bin .geq (.slot 3) (.const (.int .i64 1))⟩,
  ⟨some 5, none, .mov (.slot 4)⟩,
  ⟨some 6, some (5, true), .mov (.slot 0)⟩,
  ⟨some 7, some (5, true), .bin .leq (.slot 6) (.const (.int .i64 8))⟩,
  ⟨some 8, none, .pick (.slot 5) (.slot 7) (.const (.bool false))⟩,
  ⟨some 2, none, .mov (.slot 8)⟩]
def c_token_number : AFn := ⟨(.seq (.region c_token_number_R0 false [0]) (.seq (.region c_token_number_R1 false [2]) .ret)), [.slot 2]⟩
/- oriel/token.May -/
def c_token_May_R0 : List AOper := [⟨some 1, none, .box 2 (.slot 0)⟩,
  ⟨some 2, none, .mov (.const (.bool false))⟩]
def c_token_May_R1 : List AOper := [⟨some 6, none, .faddr 0 (.slot 1)⟩,
  ⟨some 7, none, .load false 1 (.slot 6)⟩,
  ⟨some 8, none, .bin .eql (.slot 7) (.const (.int .i64 0))⟩]
def c_token_May_R2 : List AOper := [⟨some 9, none, .faddr 1 (.slot 1)⟩,
  ⟨some 10, none, .load false 1 (.slot 9)⟩,
  ⟨some 11, none, .len false (.slot 10)⟩,
  ⟨some 12, none, .bin .eql (.slot 11) (.const (.int .i64 0))⟩,
  ⟨some 2, none, .mov (.slot 12)⟩]
def c_token_May_R3 : List AOper := [⟨some 3, none, .alloc [.bool false, .bool false, .bool false, .bool false, .bool false, .bool false, .bool false, .bool false, .bool false]⟩]
def c_token_May_R4 : List AOper := [⟨some 13, none, .faddr 0 (.slot 1)⟩,
  ⟨some 14, none, .load false 1 (.slot 13)⟩,
  ⟨some 15, none, .mkslice 1 1 [.int .i64 0] [(0, (.slot 14))]⟩,
  ⟨some 16, none, .faddr 1 (.slot 1)⟩,
  ⟨some 17, none, .load false 1 (.slot 16)⟩,
  ⟨some 18, none, .append 1 8 (.slot 15) (.slot 17)⟩,
  ⟨some 19, none, .len false (.slot 18)⟩,
  ⟨some 20, none, .mov (.const (.int .i64 0))⟩]
def c_token_May_R5 : List AOper := [⟨some 21, none, .bin .lss (.slot 20) (.slot 19)⟩]
def c_token_May_R6 : List AOper := [⟨some 22, none, .idx 1 (.slot 18) (.slot 20)⟩,
  ⟨some 23, none, .load false 1 (.slot 22)⟩,
  ⟨some 5, none, .mov (.slot 23)⟩]
def c_token_May_R7 : List AOper := [⟨some 24, none, .mov (.slot 5)⟩,
  ⟨some 25, none, .call .frz n_token_number [(.slot 24)]⟩,
  ⟨some 26, none, .not (.slot 25)⟩,
  ⟨some 27, none, .mov (.slot 26)⟩,
  ⟨some 28, some (27, false), .mov (.slot 5)⟩,
  ⟨some 29, some (27, false), .idxarr 1 9 (.slot 3) (.slot 28)⟩,
  ⟨some 30, some (27, false), .load false 1 (.slot 29)⟩,
  ⟨some 31, none, .pick (.slot 27) (.const (.bool true)) (.slot 30)⟩]
def c_token_May_R8 : List AOper := [⟨some 2, none, .mov (.const (.bool false))⟩]
def c_token_May_R9 : List AOper := [⟨some 32, none, .mov (.slot 5)⟩,
  ⟨some 33, none, .idxarr 1 9 (.slot 3) (.slot 32)⟩,
  ⟨none, none, .store false 1 (.slot 33) (.const (.bool true))⟩]
def c_token_May_R10 : List AOper := [⟨some 34, none, .bin .add (.slot 20) (.const (.int .i64 1))⟩,
  ⟨some 20, none, .mov (.slot 34)⟩]
def c_token_May_L0 : ACode := (.seq (.region c_token_May_R5 false [3, 18, 19, 20, 21]) (.seq (.cond (.slot 21) .skip (.exit 0)) (.seq (.block 1 (.seq (.region c_token_May_R6 false [3, 5, 18, 19, 20]) (.seq (.seq (.region c_token_May_R7 false [3, 5, 18, 19, 20, 31]) (.cond (.slot 31) (.seq (.region c_token_May_R8 false [2]) .ret) .skip)) (.region c_token_May_R9 false [3, 18, 19, 20])))) (.region c_token_May_R10 false [3, 18, 19, 20]))))
def lp_token_May_0 : ACode := .loop [3, 18, 19, 20] c_token_May_L0
def c_token_May_R11 : List AOper := [⟨some 2, none, .mov (.const (.bool true))⟩]
def c_token_May : AFn := ⟨(.seq (.region c_token_May_R0 false [1]) (.seq (.seq (.region c_token_May_R1 false [1, 8]) (.cond (.slot 8) (.seq (.region c_token_May_R2 false [2]) .ret) .skip)) (.seq (.region c_token_May_R3 false [1, 3]) (.seq (.seq (.region c_token_May_R4 false [3, 18, 19, 20]) (.block 0 lp_token_May_0)) (.seq (.region c_token_May_R11 false [2]) .ret))))), [.slot 2]⟩
/- slices.Index[[]int,int] -/
def c_slices_Index_int_R0 : List AOper := [⟨some 4, none, .mov (.const (.int .i64 0))⟩]
def c_slices_Index_int_R1 : List AOper := [⟨some 6, none, .mov (.slot 0)⟩,
  ⟨some 7, none, .len false (.slot 6)⟩,
  ⟨some 8, none, .mov (.const (.int .i64 0))⟩]
def c_slices_Index_int_R2 : List AOper := [⟨some 9, none, .bin .lss (.slot 8) (.slot 7)⟩]
def c_slices_Index_int_R3 : List AOper := [⟨some 10, none, .mov (.slot 8)⟩,
  ⟨some 5, none, .mov (.slot 10)⟩]
def c_slices_Index_int_R4 : List AOper := [⟨some 11, none, .mov (.slot 1)⟩,
  ⟨some 12, none, .mov (.slot 0)⟩,
  ⟨some 13, none, .mov (.slot 5)⟩,
  ⟨some 14, none, .idx 1 (.slot 12) (.slot 13)⟩,
  ⟨some 15, none, .load false 1 (.slot 14)⟩,
  ⟨some 16, none, .bin .eql (.slot 11) (.slot 15)⟩]
def c_slices_Index_int_R5 : List AOper := [⟨some 17, none, .mov (.slot 5)⟩,
  ⟨some 4, none, .mov (.slot 17)⟩]
def c_slices_Index_int_R6 : List AOper := [⟨some 18, none, .bin .add (.slot 8) (.const (.int .i64 1))⟩,
  ⟨some 8, none, .mov (.slot 18)⟩]
def c_slices_Index_int_L0 : ACode := (.seq (.region c_slices_Index_int_R2 false [0, 1, 7, 8, 9]) (.seq (.cond (.slot 9) .skip (.exit 0)) (.seq (.block 1 (.seq (.region c_slices_Index_int_R3 false [0, 1, 5, 7, 8]) (.seq (.region c_slices_Index_int_R4 false [0, 1, 5, 7, 8, 16]) (.cond (.slot 16) (.seq (.region c_slices_Index_int_R5 false [4]) .ret) .skip)))) (.region c_slices_Index_int_R6 false [0, 1, 7, 8]))))
def lp_slices_Index_int_0 : ACode := .loop [0, 1, 7, 8] c_slices_Index_int_L0
def c_slices_Index_int_R7 : List AOper := [⟨some 4, none, .mov (.const (.int .i64 (-1)))⟩]
def c_slices_Index_int : AFn := ⟨(.seq (.region c_slices_Index_int_R0 false [0, 1]) (.seq (.seq (.region c_slices_Index_int_R1 false [0, 1, 7, 8]) (.block 0 lp_slices_Index_int_0)) (.seq (.region c_slices_Index_int_R7 false [4]) .ret))), [.slot 4]⟩
/- oriel/token.Place -/
def c_token_Place_R0 : List AOper := [⟨some 2, none, .box 2 (.slot 0)⟩,
  ⟨some 4, none, .mov (.const (.int .i64 0))⟩]
def c_token_Place_R1 : List AOper := [⟨some 7, none, .load true 2 (.slot 2)⟩,
  ⟨some 8, none, .call .frz n_token_May [(.slot 7)]⟩,
  ⟨some 9, none, .not (.slot 8)⟩,
  ⟨some 10, none, .mov (.slot 9)⟩,
  ⟨some 11, some (10, false), .mov (.slot 1)⟩,
  ⟨some 12, some (10, false), .call .frz n_token_number [(.slot 11)]⟩,
  ⟨some 13, some (10, false), .not (.slot 12)⟩,
  ⟨some 14, none, .pick (.slot 10) (.const (.bool true)) (.slot 13)⟩,
  ⟨some 6, none, .mov (.slot 14)⟩]
def c_token_Place_R2 : List AOper := [⟨some 4, none, .mov (.const (.int .i64 (-1)))⟩]
def c_token_Place_R3 : List AOper := [⟨some 16, none, .faddr 0 (.slot 2)⟩,
  ⟨some 17, none, .load false 1 (.slot 16)⟩,
  ⟨some 18, none, .mov (.slot 1)⟩,
  ⟨some 19, none, .bin .eql (.slot 17) (.slot 18)⟩,
  ⟨some 15, none, .mov (.slot 19)⟩]
def c_token_Place_R4 : List AOper := [⟨some 4, none, .mov (.const (.int .i64 0))⟩]
def c_token_Place_R5 : List AOper := [⟨some 20, none, .faddr 1 (.slot 2)⟩,
  ⟨some 21, none, .load false 1 (.slot 20)⟩,
  ⟨some 22, none, .mov (.slot 1)⟩,
  ⟨some 23, none, .call .frz n_slices_Index_int [(.slot 21), (.slot 22)]⟩,
  ⟨some 5, none, .mov (.slot 23)⟩]
def c_token_Place_R6 : List AOper := [⟨some 24, none, .mov (.slot 5)⟩,
  ⟨some 25, none, .bin .geq (.slot 24) (.const (.int .i64 0))⟩]
def c_token_Place_R7 : List AOper := [⟨some 26, none, .mov (.slot 5)⟩,
  ⟨some 27, none, .bin .add (.slot 26) (.const (.int .i64 1))⟩,
  ⟨some 4, none, .mov (.slot 27)⟩]
def c_token_Place_R8 : List AOper := [⟨some 4, none, .mov (.const (.int .i64 (-1)))⟩]
def c_token_Place : AFn := ⟨(.seq (.region c_token_Place_R0 false [1, 2]) (.seq (.block 0 (.seq (.region c_token_Place_R1 false [1, 2, 6]) (.cond (.slot 6) (.seq (.region c_token_Place_R2 false [4]) .ret) (.seq (.region c_token_Place_R3 false [1, 2, 15]) (.cond (.slot 15) (.seq (.region c_token_Place_R4 false [4]) .ret) .skip))))) (.seq (.seq (.region c_token_Place_R5 false [5]) (.seq (.region c_token_Place_R6 false [5, 25]) (.cond (.slot 25) (.seq (.region c_token_Place_R7 false [4]) .ret) .skip))) (.seq (.region c_token_Place_R8 false [4]) .ret)))), [.slot 4]⟩
/- slices.Clone[[]int,int] -/
def c_slices_Clone_int_R0 : List AOper := [⟨some 2, none, .mov (.const (.data false 1 [] true))⟩]
def c_slices_Clone_int_R1 : List AOper := [⟨some 3, none, .mov (.slot 0)⟩,
  ⟨some 4, none, .isnil .ks false (.slot 3)⟩]
def c_slices_Clone_int_R2 : List AOper := [⟨some 2, none, .mov (.const (.data false 1 [] true))⟩]
def c_slices_Clone_int_R3 : List AOper := [⟨some 5, none, .mkslice 1 0 [.int .i64 0] []⟩,
  ⟨some 6, none, .mov (.slot 0)⟩,
  ⟨some 7, none, .append 1 8 (.slot 5) (.slot 6)⟩,
  ⟨some 2, none, .mov (.slot 7)⟩]
def c_slices_Clone_int : AFn := ⟨(.seq (.region c_slices_Clone_int_R0 false [0]) (.seq (.seq (.region c_slices_Clone_int_R1 false [0, 4]) (.cond (.slot 4) (.seq (.region c_slices_Clone_int_R2 false [2]) .ret) .skip)) (.seq (.region c_slices_Clone_int_R3 false [2]) .ret))), [.slot 2]⟩
/- (*oriel/token.arbiter).on -/
def c_token_arbiter_on_R0 : List AOper := [⟨some 2, none, .mov (.slot 0)⟩,
  ⟨some 3, none, .nilchk (.slot 2)⟩,
  ⟨some 4, none, .faddr 0 (.slot 3)⟩,
  ⟨some 5, none, .faddr 0 (.slot 4)⟩,
  ⟨none, none, .store false 1 (.slot 5) (.const (.int .i64 0))⟩]
def c_token_arbiter_on_R1 : List AOper := [⟨some 6, none, .mov (.slot 0)⟩,
  ⟨some 7, none, .nilchk (.slot 6)⟩,
  ⟨some 8, none, .faddr 0 (.slot 7)⟩,
  ⟨some 9, none, .faddr 1 (.slot 8)⟩,
  ⟨some 10, none, .load false 1 (.slot 9)⟩,
  ⟨some 11, none, .len false (.slot 10)⟩,
  ⟨some 12, none, .bin .gtr (.slot 11) (.const (.int .i64 0))⟩]
def c_token_arbiter_on_R2 : List AOper := [⟨some 13, none, .mov (.slot 0)⟩,
  ⟨some 14, none, .mov (.slot 0)⟩,
  ⟨some 15, none, .mov (.slot 0)⟩,
  ⟨some 16, none, .nilchk (.slot 15)⟩,
  ⟨some 17, none, .faddr 0 (.slot 16)⟩,
  ⟨some 18, none, .faddr 1 (.slot 17)⟩,
  ⟨some 19, none, .load false 1 (.slot 18)⟩,
  ⟨some 20, none, .idx 1 (.slot 19) (.const (.int .i64 0))⟩,
  ⟨some 21, none, .load false 1 (.slot 20)⟩,
  ⟨some 22, none, .mov (.slot 0)⟩,
  ⟨some 23, none, .nilchk (.slot 22)⟩,
  ⟨some 24, none, .faddr 0 (.slot 23)⟩,
  ⟨some 25, none, .faddr 1 (.slot 24)⟩,
  ⟨some 26, none, .load false 1 (.slot 25)⟩,
  ⟨some 27, none, .sl 1 (.slot 26) (some (.const (.int .i64 1))) none none⟩,
  ⟨some 28, none, .nilchk (.slot 13)⟩,
  ⟨some 29, none, .faddr 0 (.slot 28)⟩,
  ⟨some 30, none, .faddr 0 (.slot 29)⟩,
  ⟨none, none, .store false 1 (.slot 30) (.slot 21)⟩,
  ⟨some 31, none, .nilchk (.slot 14)⟩,
  ⟨some 32, none, .faddr 0 (.slot 31)⟩,
  ⟨some 33, none, .faddr 1 (.slot 32)⟩,
  ⟨none, none, .store false 1 (.slot 33) (.slot 27)⟩]
def c_token_arbiter_on : AFn := ⟨(.seq (.region c_token_arbiter_on_R0 false [0]) (.seq (.region c_token_arbiter_on_R1 false [0, 12]) (.cond (.slot 12) (.region c_token_arbiter_on_R2 true []) .skip))), []⟩
/- oriel/token.change -/
def c_token_change_R0 : List AOper := [⟨some 2, none, .box 2 (.slot 0)⟩,
  ⟨some 4, none, .alloc [.int .i64 0, .data false 1 [] true]⟩]
def c_token_change_R1 : List AOper := [⟨some 6, none, .faddr 0 (.slot 2)⟩,
  ⟨some 7, none, .load false 1 (.slot 6)⟩,
  ⟨some 8, none, .faddr 1 (.slot 2)⟩,
  ⟨some 9, none, .load false 1 (.slot 8)⟩,
  ⟨some 10, none, .call .adp n_slices_Clone_int [(.slot 9)]⟩,
  ⟨some 11, none, .build [.int .i64 0, .data false 1 [] true] [(0, 1, (.slot 7)), (1, 1, (.slot 10))]⟩,
  ⟨some 12, none, .build [.int .i64 0, .data false 1 [] true] [(0, 2, (.slot 11))]⟩,
  ⟨some 13, none, .box 2 (.slot 12)⟩,
  ⟨some 5, none, .mov (.slot 13)⟩]
def c_token_change_R2 : List AOper := [⟨some 14, none, .mov (.slot 1)⟩,
  ⟨some 15, none, .mov (.slot 5)⟩,
  ⟨some 16, none, .mov (.slot 5)⟩,
  ⟨some 17, none, .mkfn (.func n_token_arbiter_on) [(.slot 16)] []⟩,
  ⟨some 18, none, .callv (.slot 14) [(.slot 15), (.slot 17)]⟩]
def c_token_change_R3 : List AOper := [⟨some 19, none, .mov (.slot 5)⟩,
  ⟨some 20, none, .nilchk (.slot 19)⟩,
  ⟨some 21, none, .faddr 0 (.slot 20)⟩,
  ⟨some 22, none, .load true 2 (.slot 21)⟩,
  ⟨none, none, .store true 2 (.slot 4) (.slot 22)⟩]
def c_token_change : AFn := ⟨(.seq (.region c_token_change_R0 false [1, 2, 4]) (.seq (.region c_token_change_R1 true [1, 4, 5]) (.seq (.region c_token_change_R2 false [4, 5]) (.seq (.region c_token_change_R3 false [4]) .ret)))), [.cell 4 true 2]⟩
/- slices.Delete[[]int,int] -/
def c_slices_Delete_int_R0 : List AOper := [⟨some 6, none, .mov (.const (.data false 1 [] true))⟩]
def c_slices_Delete_int_R1 : List AOper := [⟨some 8, none, .mov (.slot 0)⟩,
  ⟨some 9, none, .mov (.slot 1)⟩,
  ⟨some 10, none, .mov (.slot 2)⟩,
  ⟨some 11, none, .mov (.slot 0)⟩,
  ⟨some 12, none, .len false (.slot 11)⟩,
  ⟨some 13, none, .sl 1 (.slot 8) (some (.slot 9)) (some (.slot 10)) (some (.slot 12))⟩]
def c_slices_Delete_int_R2 : List AOper := [⟨some 14, none, .mov (.slot 1)⟩,
  ⟨some 15, none, .mov (.slot 2)⟩,
  ⟨some 16, none, .bin .eql (.slot 14) (.slot 15)⟩]
def c_slices_Delete_int_R3 : List AOper := [⟨some 17, none, .mov (.slot 0)⟩,
  ⟨some 6, none, .mov (.slot 17)⟩]
def c_slices_Delete_int_R4 : List AOper := [⟨some 18, none, .mov (.slot 0)⟩,
  ⟨some 19, none, .len false (.slot 18)⟩,
  ⟨some 7, none, .mov (.slot 19)⟩]
def c_slices_Delete_int_R5 : List AOper := [⟨some 20, none, .mov (.slot 0)⟩,
  ⟨some 21, none, .mov (.slot 1)⟩,
  ⟨some 22, none, .sl 1 (.slot 20) none (some (.slot 21)) none⟩,
  ⟨some 23, none, .mov (.slot 0)⟩,
  ⟨some 24, none, .mov (.slot 2)⟩,
  ⟨some 25, none, .sl 1 (.slot 23) (some (.slot 24)) none none⟩,
  ⟨some 26, none, .append 1 8 (.slot 22) (.slot 25)⟩,
  ⟨some 0, none, .mov (.slot 26)⟩]
def c_slices_Delete_int_R6 : List AOper := [⟨some 27, none, .mov (.slot 0)⟩,
  ⟨some 28, none, .mov (.slot 0)⟩,
  ⟨some 29, none, .len false (.slot 28)⟩,
  ⟨some 30, none, .mov (.slot 7)⟩,
  ⟨some 31, none, .sl 1 (.slot 27) (some (.slot 29)) (some (.slot 30)) none⟩,
  ⟨none, none, .clear [.int .i64 0] (.slot 31)⟩]
def c_slices_Delete_int_R7 : List AOper := [⟨some 32, none, .mov (.slot 0)⟩,
  ⟨some 6, none, .mov (.slot 32)⟩]
def c_slices_Delete_int : AFn := ⟨(.seq (.region c_slices_Delete_int_R0 false [0, 1, 2]) (.seq (.region c_slices_Delete_int_R1 false [0, 1, 2]) (.seq (.seq (.region c_slices_Delete_int_R2 false [0, 1, 2, 16]) (.cond (.slot 16) (.seq (.region c_slices_Delete_int_R3 false [6]) .ret) .skip)) (.seq (.region c_slices_Delete_int_R4 false [0, 1, 2, 7]) (.seq (.region c_slices_Delete_int_R5 true [0, 7]) (.seq (.region c_slices_Delete_int_R6 false [0]) (.seq (.region c_slices_Delete_int_R7 false [6]) .ret))))))), [.slot 6]⟩
/- oriel/token.Free'1 -/
def c_token_Free_1_R0 : List AOper := [⟨some 6, none, .load false 1 (.slot 2)⟩,
  ⟨some 7, none, .bin .eql (.slot 6) (.const (.int .i64 0))⟩,
  ⟨some 5, none, .mov (.slot 7)⟩]
def c_token_Free_1_R1 : List AOper := [⟨some 8, none, .mov (.slot 1)⟩,
  ⟨some 9, none, .callv (.slot 8) []⟩]
def c_token_Free_1_R2 : List AOper := [⟨some 11, none, .load false 1 (.slot 2)⟩,
  ⟨some 12, none, .bin .gtr (.slot 11) (.const (.int .i64 0))⟩,
  ⟨some 10, none, .mov (.slot 12)⟩]
def c_token_Free_1_R3 : List AOper := [⟨some 13, none, .mov (.slot 0)⟩,
  ⟨some 14, none, .mov (.slot 0)⟩,
  ⟨some 15, none, .nilchk (.slot 14)⟩,
  ⟨some 16, none, .faddr 0 (.slot 15)⟩,
  ⟨some 17, none, .faddr 1 (.slot 16)⟩,
  ⟨some 18, none, .load false 1 (.slot 17)⟩,
  ⟨some 19, none, .load false 1 (.slot 2)⟩,
  ⟨some 20, none, .bin .sub (.slot 19) (.const (.int .i64 1))⟩,
  ⟨some 21, none, .load false 1 (.slot 2)⟩,
  ⟨some 22, none, .call .inl n_slices_Delete_int [(.slot 18), (.slot 20), (.slot 21)]⟩,
  ⟨some 23, none, .nilchk (.slot 13)⟩,
  ⟨some 24, none, .faddr 0 (.slot 23)⟩,
  ⟨some 25, none, .faddr 1 (.slot 24)⟩,
  ⟨none, none, .store false 1 (.slot 25) (.slot 22)⟩]
def c_token_Free_1 : AFn := ⟨(.block 0 (.seq (.region c_token_Free_1_R0 false [0, 1, 2, 5]) (.cond (.slot 5) (.region c_token_Free_1_R1 false []) (.seq (.region c_token_Free_1_R2 false [0, 2, 10]) (.cond (.slot 10) (.region c_token_Free_1_R3 true []) .skip))))), []⟩
/- oriel/token.Free -/
def c_token_Free_R0 : List AOper := [⟨some 2, none, .box 2 (.slot 0)⟩,
  ⟨some 4, none, .alloc [.int .i64 0, .data false 1 [] true]⟩,
  ⟨some 5, none, .mov (.const (.int .i64 0))⟩]
def c_token_Free_R1 : List AOper := [⟨some 7, none, .load true 2 (.slot 2)⟩,
  ⟨some 8, none, .call .frz n_token_May [(.slot 7)]⟩,
  ⟨some 9, none, .not (.slot 8)⟩,
  ⟨some 10, none, .mov (.slot 9)⟩,
  ⟨some 11, some (10, false), .mov (.slot 1)⟩,
  ⟨some 12, some (10, false), .call .frz n_token_number [(.slot 11)]⟩,
  ⟨some 13, some (10, false), .not (.slot 12)⟩,
  ⟨some 14, none, .pick (.slot 10) (.const (.bool true)) (.slot 13)⟩]
def c_token_Free_R2 : List AOper := [⟨some 15, none, .build [.int .i64 0, .data false 1 [] true] []⟩,
  ⟨none, none, .store true 2 (.slot 4) (.slot 15)⟩,
  ⟨some 5, none, .mov (.const (.int .i64 2))⟩]
def c_token_Free_R3 : List AOper := [⟨some 16, none, .load true 2 (.slot 2)⟩,
  ⟨some 17, none, .mov (.slot 1)⟩,
  ⟨some 18, none, .call .frz n_token_Place [(.slot 16), (.slot 17)]⟩,
  ⟨some 6, none, .alloc [.int .i64 0]⟩,
  ⟨none, none, .store false 1 (.slot 6) (.slot 18)⟩]
def c_token_Free_R4 : List AOper := [⟨some 19, none, .load true 2 (.slot 2)⟩,
  ⟨some 20, none, .mkfn (.func n_token_Free_1) [] [(.slot 6)]⟩,
  ⟨some 21, none, .call .inl n_token_change [(.slot 19), (.slot 20)]⟩,
  ⟨none, none, .store true 2 (.slot 4) (.slot 21)⟩,
  ⟨some 5, none, .mov (.const (.int .i64 0))⟩]
def c_token_Free : AFn := ⟨(.seq (.region c_token_Free_R0 false [1, 2, 4]) (.seq (.seq (.region c_token_Free_R1 false [1, 2, 4, 14]) (.cond (.slot 14) (.seq (.region c_token_Free_R2 false [4, 5]) .ret) .skip)) (.seq (.region c_token_Free_R3 false [2, 4, 6]) (.seq (.region c_token_Free_R4 false [4, 5]) .ret)))), [.cell 4 true 2, .slot 5]⟩
/- slices.Contains[[]int,int] -/
def c_slices_Contains_int_R0 : List AOper := [⟨some 4, none, .mov (.const (.bool false))⟩]
def c_slices_Contains_int_R1 : List AOper := [⟨some 5, none, .mov (.slot 0)⟩,
  ⟨some 6, none, .mov (.slot 1)⟩,
  ⟨some 7, none, .call .frz n_slices_Index_int [(.slot 5), (.slot 6)]⟩,
  ⟨some 8, none, .bin .geq (.slot 7) (.const (.int .i64 0))⟩,
  ⟨some 4, none, .mov (.slot 8)⟩]
def c_slices_Contains_int : AFn := ⟨(.seq (.region c_slices_Contains_int_R0 false [0, 1]) (.seq (.region c_slices_Contains_int_R1 false [4]) .ret)), [.slot 4]⟩
/- oriel/token.Keep'1 -/
def c_token_Keep_1_R0 : List AOper := [⟨some 3, none, .mov (.const (.bool false))⟩]
def c_token_Keep_1_R1 : List AOper := [⟨some 4, none, .load false 1 (.slot 1)⟩,
  ⟨some 5, none, .mov (.slot 0)⟩,
  ⟨some 6, none, .call .frz n_slices_Contains_int [(.slot 4), (.slot 5)]⟩,
  ⟨some 7, none, .not (.slot 6)⟩,
  ⟨some 3, none, .mov (.slot 7)⟩]
def c_token_Keep_1 : AFn := ⟨(.seq (.region c_token_Keep_1_R0 false [0, 1]) (.seq (.region c_token_Keep_1_R1 false [3]) .ret)), [.slot 3]⟩
/- slices.IndexFunc[[]int,int] -/
def c_slices_IndexFunc_int_R0 : List AOper := [⟨some 4, none, .mov (.const (.int .i64 0))⟩]
def c_slices_IndexFunc_int_R1 : List AOper := [⟨some 6, none, .mov (.slot 0)⟩,
  ⟨some 7, none, .len false (.slot 6)⟩,
  ⟨some 8, none, .mov (.const (.int .i64 0))⟩]
def c_slices_IndexFunc_int_R2 : List AOper := [⟨some 9, none, .bin .lss (.slot 8) (.slot 7)⟩]
def c_slices_IndexFunc_int_R3 : List AOper := [⟨some 10, none, .mov (.slot 8)⟩,
  ⟨some 5, none, .mov (.slot 10)⟩]
def c_slices_IndexFunc_int_R4 : List AOper := [⟨some 11, none, .mov (.slot 1)⟩,
  ⟨some 12, none, .mov (.slot 0)⟩,
  ⟨some 13, none, .mov (.slot 5)⟩,
  ⟨some 14, none, .idx 1 (.slot 12) (.slot 13)⟩,
  ⟨some 15, none, .load false 1 (.slot 14)⟩,
  ⟨some 16, none, .callv (.slot 11) [(.slot 15)]⟩]
def c_slices_IndexFunc_int_R5 : List AOper := [⟨some 17, none, .mov (.slot 5)⟩,
  ⟨some 4, none, .mov (.slot 17)⟩]
def c_slices_IndexFunc_int_R6 : List AOper := [⟨some 18, none, .bin .add (.slot 8) (.const (.int .i64 1))⟩,
  ⟨some 8, none, .mov (.slot 18)⟩]
def c_slices_IndexFunc_int_L0 : ACode := (.seq (.region c_slices_IndexFunc_int_R2 false [0, 1, 7, 8, 9]) (.seq (.cond (.slot 9) .skip (.exit 0)) (.seq (.block 1 (.seq (.region c_slices_IndexFunc_int_R3 false [0, 1, 5, 7, 8]) (.seq (.region c_slices_IndexFunc_int_R4 false [0, 1, 5, 7, 8, 16]) (.cond (.slot 16) (.seq (.region c_slices_IndexFunc_int_R5 false [4]) .ret) .skip)))) (.region c_slices_IndexFunc_int_R6 false [0, 1, 7, 8]))))
def lp_slices_IndexFunc_int_0 : ACode := .loop [0, 1, 7, 8] c_slices_IndexFunc_int_L0
def c_slices_IndexFunc_int_R7 : List AOper := [⟨some 4, none, .mov (.const (.int .i64 (-1)))⟩]
def c_slices_IndexFunc_int : AFn := ⟨(.seq (.region c_slices_IndexFunc_int_R0 false [0, 1]) (.seq (.seq (.region c_slices_IndexFunc_int_R1 false [0, 1, 7, 8]) (.block 0 lp_slices_IndexFunc_int_0)) (.seq (.region c_slices_IndexFunc_int_R7 false [4]) .ret))), [.slot 4]⟩
/- slices.DeleteFunc[[]int,int] -/
def c_slices_DeleteFunc_int_R0 : List AOper := [⟨some 4, none, .mov (.const (.data false 1 [] true))⟩]
def c_slices_DeleteFunc_int_R1 : List AOper := [⟨some 8, none, .mov (.slot 0)⟩,
  ⟨some 9, none, .mov (.slot 1)⟩,
  ⟨some 10, none, .call .inl n_slices_IndexFunc_int [(.slot 8), (.slot 9)]⟩,
  ⟨some 5, none, .mov (.slot 10)⟩]
def c_slices_DeleteFunc_int_R2 : List AOper := [⟨some 11, none, .mov (.slot 5)⟩,
  ⟨some 12, none, .bin .eql (.slot 11) (.const (.int .i64 (-1)))⟩]
def c_slices_DeleteFunc_int_R3 : List AOper := [⟨some 13, none, .mov (.slot 0)⟩,
  ⟨some 4, none, .mov (.slot 13)⟩]
def c_slices_DeleteFunc_int_R4 : List AOper := [⟨some 14, none, .mov (.slot 5)⟩,
  ⟨some 15, none, .bin .add (.slot 14) (.const (.int .i64 1))⟩,
  ⟨some 6, none, .mov (.slot 15)⟩]
def c_slices_DeleteFunc_int_R5 : List AOper := [⟨some 16, none, .mov (.slot 6)⟩,
  ⟨some 17, none, .mov (.slot 0)⟩,
  ⟨some 18, none, .len false (.slot 17)⟩,
  ⟨some 19, none, .bin .lss (.slot 16) (.slot 18)⟩]
def c_slices_DeleteFunc_int_R7 : List AOper := [⟨some 22, none, .mov (.slot 0)⟩,
  ⟨some 23, none, .mov (.slot 6)⟩,
  ⟨some 24, none, .idx 1 (.slot 22) (.slot 23)⟩,
  ⟨some 25, none, .load false 1 (.slot 24)⟩,
  ⟨some 7, none, .mov (.slot 25)⟩]
def c_slices_DeleteFunc_int_R8 : List AOper := [⟨some 26, none, .mov (.slot 1)⟩,
  ⟨some 27, none, .mov (.slot 7)⟩,
  ⟨some 28, none, .callv (.slot 26) [(.slot 27)]⟩,
  ⟨some 29, none, .not (.slot 28)⟩]
def c_slices_DeleteFunc_int_R9 : List AOper := [⟨some 30, none, .mov (.slot 0)⟩,
  ⟨some 31, none, .mov (.slot 5)⟩,
  ⟨some 32, none, .mov (.slot 7)⟩,
  ⟨some 33, none, .idx 1 (.slot 30) (.slot 31)⟩,
  ⟨none, none, .store false 1 (.slot 33) (.slot 32)⟩]
def c_slices_DeleteFunc_int_R10 : List AOper := [⟨some 34, none, .mov (.slot 5)⟩,
  ⟨some 35, none, .bin .add (.slot 34) (.const (.int .i64 1))⟩,
  ⟨some 5, none, .mov (.slot 35)⟩]
def c_slices_DeleteFunc_int_R6 : List AOper := [⟨some 20, none, .mov (.slot 6)⟩,
  ⟨some 21, none, .bin .add (.slot 20) (.const (.int .i64 1))⟩,
  ⟨some 6, none, .mov (.slot 21)⟩]
def c_slices_DeleteFunc_int_L0 : ACode := (.seq (.seq (.region c_slices_DeleteFunc_int_R5 false [0, 1, 5, 6, 19]) (.cond (.slot 19) .skip (.exit 0))) (.seq (.block 1 (.seq (.region c_slices_DeleteFunc_int_R7 false [0, 1, 5, 6, 7]) (.seq (.region c_slices_DeleteFunc_int_R8 false [0, 1, 5, 6, 7, 29]) (.cond (.slot 29) (.seq (.region c_slices_DeleteFunc_int_R9 false [0, 1, 5, 6]) (.region c_slices_DeleteFunc_int_R10 false [0, 1, 5, 6])) .skip)))) (.region c_slices_DeleteFunc_int_R6 false [0, 1, 5, 6])))
def lp_slices_DeleteFunc_int_0 : ACode := .loop [0, 1, 5, 6] c_slices_DeleteFunc_int_L0
def c_slices_DeleteFunc_int_R11 : List AOper := [⟨some 36, none, .mov (.slot 0)⟩,
  ⟨some 37, none, .mov (.slot 5)⟩,
  ⟨some 38, none, .sl 1 (.slot 36) (some (.slot 37)) none none⟩,
  ⟨none, none, .clear [.int .i64 0] (.slot 38)⟩]
def c_slices_DeleteFunc_int_R12 : List AOper := [⟨some 39, none, .mov (.slot 0)⟩,
  ⟨some 40, none, .mov (.slot 5)⟩,
  ⟨some 41, none, .sl 1 (.slot 39) none (some (.slot 40)) none⟩,
  ⟨some 4, none, .mov (.slot 41)⟩]
def c_slices_DeleteFunc_int : AFn := ⟨(.seq (.region c_slices_DeleteFunc_int_R0 false [0, 1]) (.seq (.region c_slices_DeleteFunc_int_R1 false [0, 1, 5]) (.seq (.seq (.region c_slices_DeleteFunc_int_R2 false [0, 1, 5, 12]) (.cond (.slot 12) (.seq (.region c_slices_DeleteFunc_int_R3 false [4]) .ret) .skip)) (.seq (.seq (.region c_slices_DeleteFunc_int_R4 false [0, 1, 5, 6]) (.block 0 lp_slices_DeleteFunc_int_0)) (.seq (.region c_slices_DeleteFunc_int_R11 false [0, 5]) (.seq (.region c_slices_DeleteFunc_int_R12 false [4]) .ret)))))), [.slot 4]⟩
/- oriel/token.Keep'2 -/
def c_token_Keep_2_R0 : List AOper := [⟨some 5, none, .mov (.slot 0)⟩,
  ⟨some 6, none, .mov (.slot 0)⟩,
  ⟨some 7, none, .nilchk (.slot 6)⟩,
  ⟨some 8, none, .faddr 0 (.slot 7)⟩,
  ⟨some 9, none, .faddr 1 (.slot 8)⟩,
  ⟨some 10, none, .load false 1 (.slot 9)⟩,
  ⟨some 11, none, .load false 1 (.slot 2)⟩,
  ⟨some 12, none, .call .inl n_slices_DeleteFunc_int [(.slot 10), (.slot 11)]⟩,
  ⟨some 13, none, .nilchk (.slot 5)⟩,
  ⟨some 14, none, .faddr 0 (.slot 13)⟩,
  ⟨some 15, none, .faddr 1 (.slot 14)⟩,
  ⟨none, none, .store false 1 (.slot 15) (.slot 12)⟩]
def c_token_Keep_2_R1 : List AOper := [⟨some 16, none, .mov (.slot 0)⟩,
  ⟨some 17, none, .nilchk (.slot 16)⟩,
  ⟨some 18, none, .faddr 0 (.slot 17)⟩,
  ⟨some 19, none, .faddr 0 (.slot 18)⟩,
  ⟨some 20, none, .load false 1 (.slot 19)⟩,
  ⟨some 21, none, .bin .neq (.slot 20) (.const (.int .i64 0))⟩,
  ⟨some 22, none, .mov (.slot 21)⟩,
  ⟨some 23, some (22, true), .load false 1 (.slot 2)⟩,
  ⟨some 24, some (22, true), .mov (.slot 0)⟩,
  ⟨some 25, some (22, true), .nilchk (.slot 24)⟩,
  ⟨some 26, some (22, true), .faddr 0 (.slot 25)⟩,
  ⟨some 27, some (22, true), .faddr 0 (.slot 26)⟩,
  ⟨some 28, some (22, true), .load false 1 (.slot 27)⟩,
  ⟨some 29, some (22, true), .callv (.slot 23) [(.slot 28)]⟩,
  ⟨some 30, none, .pick (.slot 22) (.slot 29) (.const (.bool false))⟩]
def c_token_Keep_2_R2 : List AOper := [⟨some 31, none, .mov (.slot 1)⟩,
  ⟨some 32, none, .callv (.slot 31) []⟩]
def c_token_Keep_2 : AFn := ⟨(.seq (.region c_token_Keep_2_R0 true [0, 1, 2]) (.seq (.region c_token_Keep_2_R1 true [1, 30]) (.cond (.slot 30) (.region c_token_Keep_2_R2 false []) .skip))), []⟩
/- oriel/token.Keep -/
def c_token_Keep_R0 : List AOper := [⟨some 2, none, .box 2 (.slot 0)⟩,
  ⟨some 3, none, .box 1 (.slot 1)⟩,
  ⟨some 4, none, .alloc [.int .i64 0, .data false 1 [] true]⟩,
  ⟨some 5, none, .mov (.const (.int .i64 0))⟩]
def c_token_Keep_R1 : List AOper := [⟨some 7, none, .load true 2 (.slot 2)⟩,
  ⟨some 8, none, .call .frz n_token_May [(.slot 7)]⟩,
  ⟨some 9, none, .not (.slot 8)⟩]
def c_token_Keep_R2 : List AOper := [⟨some 10, none, .build [.int .i64 0, .data false 1 [] true] []⟩,
  ⟨none, none, .store true 2 (.slot 4) (.slot 10)⟩,
  ⟨some 5, none, .mov (.const (.int .i64 2))⟩]
def c_token_Keep_R3 : List AOper := [⟨some 11, none, .mkfn (.func n_token_Keep_1) [] [(.slot 3)]⟩,
  ⟨some 6, none, .alloc [.nilfn]⟩,
  ⟨none, none, .store false 1 (.slot 6) (.slot 11)⟩]
def c_token_Keep_R4 : List AOper := [⟨some 12, none, .load true 2 (.slot 2)⟩,
  ⟨some 13, none, .mkfn (.func n_token_Keep_2) [] [(.slot 6)]⟩,
  ⟨some 14, none, .call .inl n_token_change [(.slot 12), (.slot 13)]⟩,
  ⟨none, none, .store true 2 (.slot 4) (.slot 14)⟩,
  ⟨some 5, none, .mov (.const (.int .i64 0))⟩]
def c_token_Keep : AFn := ⟨(.seq (.region c_token_Keep_R0 false [2, 3, 4]) (.seq (.seq (.region c_token_Keep_R1 false [2, 3, 4, 9]) (.cond (.slot 9) (.seq (.region c_token_Keep_R2 false [4, 5]) .ret) .skip)) (.seq (.region c_token_Keep_R3 false [2, 4, 6]) (.seq (.region c_token_Keep_R4 false [4, 5]) .ret)))), [.cell 4 true 2, .slot 5]⟩
/- oriel/orielref27.Same -/
def c_ref27_Same_R0 : List AOper := [⟨some 2, none, .box 2 (.slot 0)⟩,
  ⟨some 3, none, .box 2 (.slot 1)⟩,
  ⟨some 4, none, .mov (.const (.bool false))⟩]
def c_ref27_Same_R1 : List AOper := [⟨some 6, none, .faddr 0 (.slot 2)⟩,
  ⟨some 7, none, .load false 1 (.slot 6)⟩,
  ⟨some 8, none, .faddr 0 (.slot 3)⟩,
  ⟨some 9, none, .load false 1 (.slot 8)⟩,
  ⟨some 10, none, .bin .neq (.slot 7) (.slot 9)⟩,
  ⟨some 11, none, .mov (.slot 10)⟩,
  ⟨some 12, some (11, false), .faddr 1 (.slot 2)⟩,
  ⟨some 13, some (11, false), .load false 1 (.slot 12)⟩,
  ⟨some 14, some (11, false), .len false (.slot 13)⟩,
  ⟨some 15, some (11, false), .faddr 1 (.slot 3)⟩,
  ⟨some 16, some (11, false), .load false 1 (.slot 15)⟩,
  ⟨some 17, some (11, false), .len false (.slot 16)⟩,
  ⟨some 18, some (11, false), .bin .neq (.slot 14) (.slot 17)⟩,
  ⟨some 19, none, .pick (.slot 11) (.const (.bool true)) (.slot 18)⟩]
def c_ref27_Same_R2 : List AOper := [⟨some 4, none, .mov (.const (.bool false))⟩]
def c_ref27_Same_R3 : List AOper := [⟨some 5, none, .mov (.const (.int .i64 0))⟩]
def c_ref27_Same_R4 : List AOper := [⟨some 20, none, .mov (.slot 5)⟩,
  ⟨some 21, none, .faddr 1 (.slot 2)⟩,
  ⟨some 22, none, .load false 1 (.slot 21)⟩,
  ⟨some 23, none, .len false (.slot 22)⟩,
  ⟨some 24, none, .bin .lss (.slot 20) (.slot 23)⟩]
def c_ref27_Same_R6 : List AOper := [⟨some 27, none, .faddr 1 (.slot 2)⟩,
  ⟨some 28, none, .load false 1 (.slot 27)⟩,
  ⟨some 29, none, .mov (.slot 5)⟩,
  ⟨some 30, none, .idx 1 (.slot 28) (.slot 29)⟩,
  ⟨some 31, none, .load false 1 (.slot 30)⟩,
  ⟨some 32, none, .faddr 1 (.slot 3)⟩,
  ⟨some 33, none, .load false 1 (.slot 32)⟩,
  ⟨some 34, none, .mov (.slot 5)⟩,
  ⟨some 35, none, .idx 1 (.slot 33) (.slot 34)⟩,
  ⟨some 36, none, .load false 1 (.slot 35)⟩,
  ⟨some 37, none, .bin .neq (.slot 31) (.slot 36)⟩]
def c_ref27_Same_R7 : List AOper := [⟨some 4, none, .mov (.const (.bool false))⟩]
def c_ref27_Same_R5 : List AOper := [⟨some 25, none, .mov (.slot 5)⟩,
  ⟨some 26, none, .bin .add (.slot 25) (.const (.int .i64 1))⟩,
  ⟨some 5, none, .mov (.slot 26)⟩]
def c_ref27_Same_L0 : ACode := (.seq (.seq (.region c_ref27_Same_R4 false [2, 3, 5, 24]) (.cond (.slot 24) .skip (.exit 0))) (.seq (.block 1 (.seq (.region c_ref27_Same_R6 true [2, 3, 5, 37]) (.cond (.slot 37) (.seq (.region c_ref27_Same_R7 false [4]) .ret) .skip))) (.region c_ref27_Same_R5 false [2, 3, 5])))
def lp_ref27_Same_0 : ACode := .loop [2, 3, 5] c_ref27_Same_L0
def c_ref27_Same_R8 : List AOper := [⟨some 4, none, .mov (.const (.bool true))⟩]
def c_ref27_Same : AFn := ⟨(.seq (.region c_ref27_Same_R0 false [2, 3]) (.seq (.seq (.region c_ref27_Same_R1 false [2, 3, 19]) (.cond (.slot 19) (.seq (.region c_ref27_Same_R2 false [4]) .ret) .skip)) (.seq (.seq (.region c_ref27_Same_R3 false [2, 3, 5]) (.block 0 lp_ref27_Same_0)) (.seq (.region c_ref27_Same_R8 false [4]) .ret)))), [.slot 4]⟩
/- oriel/token.Ask'1 -/
def c_token_Ask_1_R0 : List AOper := [⟨some 6, none, .load false 1 (.slot 2)⟩,
  ⟨some 7, none, .bin .lss (.slot 6) (.const (.int .i64 0))⟩]
def c_token_Ask_1_R1 : List AOper := [⟨some 8, none, .mov (.slot 0)⟩,
  ⟨some 9, none, .mov (.slot 0)⟩,
  ⟨some 10, none, .nilchk (.slot 9)⟩,
  ⟨some 11, none, .faddr 0 (.slot 10)⟩,
  ⟨some 12, none, .faddr 1 (.slot 11)⟩,
  ⟨some 13, none, .load false 1 (.slot 12)⟩,
  ⟨some 14, none, .load false 1 (.slot 3)⟩,
  ⟨some 15, none, .mkslice 1 1 [.int .i64 0] [(0, (.slot 14))]⟩,
  ⟨some 16, none, .append 1 8 (.slot 13) (.slot 15)⟩,
  ⟨some 17, none, .nilchk (.slot 8)⟩,
  ⟨some 18, none, .faddr 0 (.slot 17)⟩,
  ⟨some 19, none, .faddr 1 (.slot 18)⟩,
  ⟨none, none, .store false 1 (.slot 19) (.slot 16)⟩]
def c_token_Ask_1_R2 : List AOper := [⟨some 20, none, .mov (.slot 0)⟩,
  ⟨some 21, none, .nilchk (.slot 20)⟩,
  ⟨some 22, none, .faddr 0 (.slot 21)⟩,
  ⟨some 23, none, .faddr 0 (.slot 22)⟩,
  ⟨some 24, none, .load false 1 (.slot 23)⟩,
  ⟨some 25, none, .bin .eql (.slot 24) (.const (.int .i64 0))⟩]
def c_token_Ask_1_R3 : List AOper := [⟨some 26, none, .mov (.slot 1)⟩,
  ⟨some 27, none, .callv (.slot 26) []⟩]
def c_token_Ask_1 : AFn := ⟨(.seq (.seq (.region c_token_Ask_1_R0 false [0, 1, 3, 7]) (.cond (.slot 7) (.region c_token_Ask_1_R1 true [0, 1]) .skip)) (.seq (.region c_token_Ask_1_R2 false [1, 25]) (.cond (.slot 25) (.region c_token_Ask_1_R3 false []) .skip))), []⟩
/- oriel/token.Ask -/
def c_token_Ask_R0 : List AOper := [⟨some 2, none, .box 2 (.slot 0)⟩,
  ⟨some 3, none, .box 1 (.slot 1)⟩,
  ⟨some 4, none, .alloc [.int .i64 0, .data false 1 [] true]⟩,
  ⟨some 5, none, .mov (.const (.int .i64 0))⟩]
def c_token_Ask_R1 : List AOper := [⟨some 7, none, .load true 2 (.slot 2)⟩,
  ⟨some 8, none, .call .frz n_token_May [(.slot 7)]⟩,
  ⟨some 9, none, .not (.slot 8)⟩,
  ⟨some 10, none, .mov (.slot 9)⟩,
  ⟨some 11, some (10, false), .load false 1 (.slot 3)⟩,
  ⟨some 12, some (10, false), .call .frz n_token_number [(.slot 11)]⟩,
  ⟨some 13, some (10, false), .not (.slot 12)⟩,
  ⟨some 14, none, .pick (.slot 10) (.const (.bool true)) (.slot 13)⟩]
def c_token_Ask_R2 : List AOper := [⟨some 15, none, .build [.int .i64 0, .data false 1 [] true] []⟩,
  ⟨none, none, .store true 2 (.slot 4) (.slot 15)⟩,
  ⟨some 5, none, .mov (.const (.int .i64 2))⟩]
def c_token_Ask_R3 : List AOper := [⟨some 16, none, .load true 2 (.slot 2)⟩,
  ⟨some 17, none, .load false 1 (.slot 3)⟩,
  ⟨some 18, none, .call .frz n_token_Place [(.slot 16), (.slot 17)]⟩,
  ⟨some 6, none, .alloc [.int .i64 0]⟩,
  ⟨none, none, .store false 1 (.slot 6) (.slot 18)⟩]
def c_token_Ask_R4 : List AOper := [⟨some 19, none, .load true 2 (.slot 2)⟩,
  ⟨some 20, none, .mkfn (.func n_token_Ask_1) [] [(.slot 6), (.slot 3)]⟩,
  ⟨some 21, none, .call .inl n_token_change [(.slot 19), (.slot 20)]⟩,
  ⟨none, none, .store true 2 (.slot 4) (.slot 21)⟩,
  ⟨some 5, none, .mov (.const (.int .i64 0))⟩]
def c_token_Ask : AFn := ⟨(.seq (.region c_token_Ask_R0 false [2, 3, 4]) (.seq (.seq (.region c_token_Ask_R1 false [2, 3, 4, 14]) (.cond (.slot 14) (.seq (.region c_token_Ask_R2 false [4, 5]) .ret) .skip)) (.seq (.region c_token_Ask_R3 false [2, 3, 4, 6]) (.seq (.region c_token_Ask_R4 false [4, 5]) .ret)))), [.cell 4 true 2, .slot 5]⟩
/- oriel/oriellaw27.asked -/
def c_law27_asked_R0 : List AOper := [⟨some 2, none, .alloc [.int .i64 0, .data false 1 [] true]⟩]
def c_law27_asked_R1 : List AOper := [⟨some 3, none, .alloc [.int .i64 0, .data false 1 [] true]⟩]
def c_law27_asked_R2 : List AOper := [⟨some 4, none, .mov (.const (.int .i64 0))⟩]
def c_law27_asked_R3 : List AOper := [⟨some 5, none, .mov (.slot 4)⟩,
  ⟨some 6, none, .mov (.slot 0)⟩,
  ⟨some 7, none, .len false (.slot 6)⟩,
  ⟨some 8, none, .bin .lss (.slot 5) (.slot 7)⟩]
def c_law27_asked_R5 : List AOper := [⟨some 12, none, .load true 2 (.slot 3)⟩,
  ⟨some 13, none, .mov (.slot 0)⟩,
  ⟨some 14, none, .mov (.slot 4)⟩,
  ⟨some 15, none, .idx 1 (.slot 13) (.slot 14)⟩,
  ⟨some 16, none, .load false 1 (.slot 15)⟩,
  ⟨some 17, none, .call .frz n_token_Ask [(.slot 12), (.slot 16)]⟩,
  ⟨some 11, none, .mov (.slot 17)⟩,
  ⟨some 18, none, .extract 0 (.slot 11)⟩,
  ⟨some 19, none, .extract 1 (.slot 11)⟩,
  ⟨none, none, .store true 2 (.slot 3) (.slot 18)⟩]
def c_law27_asked_R4 : List AOper := [⟨some 9, none, .mov (.slot 4)⟩,
  ⟨some 10, none, .bin .add (.slot 9) (.const (.int .i64 1))⟩,
  ⟨some 4, none, .mov (.slot 10)⟩]
def c_law27_asked_L0 : ACode := (.seq (.seq (.region c_law27_asked_R3 false [0, 2, 3, 4, 8]) (.cond (.slot 8) .skip (.exit 0))) (.seq (.block 1 (.region c_law27_asked_R5 true [0, 2, 3, 4])) (.region c_law27_asked_R4 false [0, 2, 3, 4])))
def lp_law27_asked_0 : ACode := .loop [0, 2, 3, 4] c_law27_asked_L0
def c_law27_asked_R6 : List AOper := [⟨some 20, none, .load true 2 (.slot 3)⟩,
  ⟨none, none, .store true 2 (.slot 2) (.slot 20)⟩]
def c_law27_asked : AFn := ⟨(.seq (.region c_law27_asked_R0 false [0, 2]) (.seq (.region c_law27_asked_R1 false [0, 2, 3]) (.seq (.seq (.region c_law27_asked_R2 false [0, 2, 3, 4]) (.block 0 lp_law27_asked_0)) (.seq (.region c_law27_asked_R6 false [2]) .ret)))), [.cell 2 true 2]⟩
/- oriel/oriellaw27.known -/
def c_law27_known_R0 : List AOper := [⟨some 0, none, .mov (.const (.bool false))⟩]
def c_law27_known_R1 : List AOper := [⟨some 8, none, .mkslice 1 4 [.int .i64 0] [(0, (.const (.int .i64 3))), (1, (.const (.int .i64 5))), (2, (.const (.int .i64 3))), (3, (.const (.int .i64 1)))]⟩,
  ⟨some 9, none, .call .frz n_law27_asked [(.slot 8)]⟩,
  ⟨some 1, none, .alloc [.int .i64 0, .data false 1 [] true]⟩,
  ⟨none, none, .store true 2 (.slot 1) (.slot 9)⟩]
def c_law27_known_R2 : List AOper := [⟨some 11, none, .load true 2 (.slot 1)⟩,
  ⟨some 12, none, .call .frz n_token_Free [(.slot 11), (.const (.int .i64 5))]⟩,
  ⟨some 10, none, .mov (.slot 12)⟩,
  ⟨some 13, none, .extract 0 (.slot 10)⟩,
  ⟨some 14, none, .extract 1 (.slot 10)⟩,
  ⟨some 2, none, .alloc [.int .i64 0, .data false 1 [] true]⟩,
  ⟨none, none, .store true 2 (.slot 2) (.slot 13)⟩,
  ⟨some 3, none, .mov (.slot 14)⟩]
def c_law27_known_R3 : List AOper := [⟨some 16, none, .load true 2 (.slot 2)⟩,
  ⟨some 17, none, .call .frz n_token_Free [(.slot 16), (.const (.int .i64 3))]⟩,
  ⟨some 15, none, .mov (.slot 17)⟩,
  ⟨some 18, none, .extract 0 (.slot 15)⟩,
  ⟨some 19, none, .extract 1 (.slot 15)⟩,
  ⟨some 4, none, .alloc [.int .i64 0, .data false 1 [] true]⟩,
  ⟨none, none, .store true 2 (.slot 4) (.slot 18)⟩,
  ⟨some 5, none, .mov (.slot 19)⟩]
def c_law27_known_R4 : List AOper := [⟨some 21, none, .load true 2 (.slot 1)⟩,
  ⟨some 22, none, .mkslice 1 1 [.int .i64 0] [(0, (.const (.int .i64 1)))]⟩,
  ⟨some 23, none, .call .frz n_token_Keep [(.slot 21), (.slot 22)]⟩,
  ⟨some 20, none, .mov (.slot 23)⟩,
  ⟨some 24, none, .extract 0 (.slot 20)⟩,
  ⟨some 25, none, .extract 1 (.slot 20)⟩,
  ⟨some 6, none, .alloc [.int .i64 0, .data false 1 [] true]⟩,
  ⟨none, none, .store true 2 (.slot 6) (.slot 24)⟩,
  ⟨some 7, none, .mov (.slot 25)⟩]
def c_law27_known_R5 : List AOper := [⟨some 26, none, .mov (.slot 3)⟩,
  ⟨some 27, none, .bin .eql (.slot 26) (.const (.int .i64 0))⟩,
  ⟨some 28, none, .mov (.slot 27)⟩,
  ⟨some 29, some (28, true), .mov (.slot 5)⟩,
  ⟨some 30, some (28, true), .bin .eql (.slot 29) (.const (.int .i64 0))⟩,
  ⟨some 31, none, .pick (.slot 28) (.slot 30) (.const (.bool false))⟩,
  ⟨some 32, none, .mov (.slot 31)⟩,
  ⟨some 33, some (32, true), .mov (.slot 7)⟩,
  ⟨some 34, some (32, true), .bin .eql (.slot 33) (.const (.int .i64 0))⟩,
  ⟨some 35, none, .pick (.slot 32) (.slot 34) (.const (.bool false))⟩,
  ⟨some 36, none, .mov (.slot 35)⟩,
  ⟨some 37, some (36, true), .load true 2 (.slot 1)⟩,
  ⟨some 38, some (36, true), .mkslice 1 2 [.int .i64 0] [(0, (.const (.int .i64 5))), (1, (.const (.int .i64 1)))]⟩,
  ⟨some 39, some (36, true), .build [.int .i64 0, .data false 1 [] true] [(0, 1, (.const (.int .i64 3))), (1, 1, (.slot 38))]⟩,
  ⟨some 40, some (36, true), .call .frz n_ref27_Same [(.slot 37), (.slot 39)]⟩,
  ⟨some 41, none, .pick (.slot 36) (.slot 40) (.const (.bool false))⟩,
  ⟨some 42, none, .mov (.slot 41)⟩,
  ⟨some 43, some (42, true), .load true 2 (.slot 2)⟩,
  ⟨some 44, some (42, true), .mkslice 1 1 [.int .i64 0] [(0, (.const (.int .i64 1)))]⟩,
  ⟨some 45, some (42, true), .build [.int .i64 0, .data false 1 [] true] [(0, 1, (.const (.int .i64 3))), (1, 1, (.slot 44))]⟩,
  ⟨some 46, some (42, true), .call .frz n_ref27_Same [(.slot 43), (.slot 45)]⟩,
  ⟨some 47, none, .pick (.slot 42) (.slot 46) (.const (.bool false))⟩,
  ⟨some 48, none, .mov (.slot 47)⟩,
  ⟨some 49, some (48, true), .load true 2 (.slot 4)⟩,
  ⟨some 50, some (48, true), .build [.int .i64 0, .data false 1 [] true] [(0, 1, (.const (.int .i64 1)))]⟩,
  ⟨some 51, some (48, true), .call .frz n_ref27_Same [(.slot 49), (.slot 50)]⟩,
  ⟨some 52, none, .pick (.slot 48) (.slot 51) (.const (.bool false))⟩,
  ⟨some 53, none, .mov (.slot 52)⟩,
  ⟨some 54, some (53, true), .load true 2 (.slot 6)⟩,
  ⟨some 55, some (53, true), .load true 2 (.slot 4)⟩,
  ⟨some 56, some (53, true), .call .frz n_ref27_Same [(.slot 54), (.slot 55)]⟩,
  ⟨some 57, none, .pick (.slot 53) (.slot 56) (.const (.bool false))⟩,
  ⟨some 0, none, .mov (.slot 57)⟩]
def c_law27_known : AFn := ⟨(.seq (.region c_law27_known_R0 false []) (.seq (.region c_law27_known_R1 false [1]) (.seq (.region c_law27_known_R2 false [1, 2, 3]) (.seq (.region c_law27_known_R3 false [1, 2, 3, 4, 5]) (.seq (.region c_law27_known_R4 false [1, 2, 3, 4, 5, 6, 7]) (.seq (.region c_law27_known_R5 false [0]) .ret)))))), [.slot 0]⟩
/- oriel/oriellaw27.TokenOrder -/
def c_law27_TokenOrder_R0 : List AOper := [⟨some 2, none, .mov (.const (.bool false))⟩]
def c_law27_TokenOrder_R1 : List AOper := [⟨some 14, none, .call .frz n_law27_known []⟩,
  ⟨some 15, none, .not (.slot 14)⟩]
def c_law27_TokenOrder_R2 : List AOper := [⟨some 2, none, .mov (.const (.bool false))⟩]
def c_law27_TokenOrder_R3 : List AOper := [⟨some 16, none, .mov (.slot 0)⟩,
  ⟨some 17, none, .len false (.slot 16)⟩,
  ⟨some 18, none, .bin .gtr (.slot 17) (.const (.int .i64 200))⟩]
def c_law27_TokenOrder_R4 : List AOper := [⟨some 2, none, .mov (.const (.bool true))⟩]
def c_law27_TokenOrder_R5 : List AOper := [⟨some 3, none, .alloc [.int .i64 0, .data false 1 [] true]⟩]
def c_law27_TokenOrder_R6 : List AOper := [⟨some 4, none, .alloc [.int .i64 0, .int .i64 0, .int .i64 0, .int .i64 0, .int .i64 0, .int .i64 0, .int .i64 0, .int .i64 0, .int .i64 0]⟩]
def c_law27_TokenOrder_R7 : List AOper := [⟨some 5, none, .mov (.const (.int .i64 0))⟩]
def c_law27_TokenOrder_R8 : List AOper := [⟨some 19, none, .mov (.slot 5)⟩,
  ⟨some 20, none, .mov (.slot 0)⟩,
  ⟨some 21, none, .len false (.slot 20)⟩,
  ⟨some 22, none, .bin .lss (.slot 19) (.slot 21)⟩]
def c_law27_TokenOrder_R10 : List AOper := [⟨some 25, none, .mov (.slot 0)⟩,
  ⟨some 26, none, .mov (.slot 5)⟩,
  ⟨some 27, none, .idx 2 (.slot 25) (.slot 26)⟩,
  ⟨some 28, none, .faddr 1 (.slot 27)⟩,
  ⟨some 29, none, .load false 1 (.slot 28)⟩,
  ⟨some 6, none, .mov (.slot 29)⟩]
def c_law27_TokenOrder_R11 : List AOper := [⟨some 30, none, .mov (.slot 6)⟩,
  ⟨some 31, none, .bin .lss (.slot 30) (.const (.int .i64 1))⟩,
  ⟨some 32, none, .mov (.slot 31)⟩,
  ⟨some 33, some (32, false), .mov (.slot 6)⟩,
  ⟨some 34, some (32, false), .bin .gtr (.slot 33) (.const (.int .i64 8))⟩,
  ⟨some 35, none, .pick (.slot 32) (.const (.bool true)) (.slot 34)⟩]
def c_law27_TokenOrder_R12 : List AOper := [⟨some 2, none, .mov (.const (.bool true))⟩]
def c_law27_TokenOrder_R13 : List AOper := [⟨some 36, none, .load true 2 (.slot 3)⟩,
  ⟨some 7, none, .alloc [.int .i64 0, .data false 1 [] true]⟩,
  ⟨none, none, .store true 2 (.slot 7) (.slot 36)⟩]
def c_law27_TokenOrder_R14 : List AOper := [⟨some 8, none, .mov (.const (.int .i64 0))⟩]
def c_law27_TokenOrder_R15 : List AOper := [⟨some 37, none, .mov (.slot 0)⟩,
  ⟨some 38, none, .mov (.slot 5)⟩,
  ⟨some 39, none, .idx 2 (.slot 37) (.slot 38)⟩,
  ⟨some 40, none, .faddr 0 (.slot 39)⟩,
  ⟨some 41, none, .load false 1 (.slot 40)⟩]
def c_law27_TokenOrder_R16 : List AOper := [⟨some 43, none, .bin .eql (.slot 41) (.const (.int .i64 0))⟩,
  ⟨some 42, none, .mov (.slot 43)⟩]
def c_law27_TokenOrder_R17 : List AOper := [⟨some 45, none, .load true 2 (.slot 3)⟩,
  ⟨some 46, none, .mov (.slot 6)⟩,
  ⟨some 47, none, .call .frz n_token_Ask [(.slot 45), (.slot 46)]⟩,
  ⟨some 44, none, .mov (.slot 47)⟩,
  ⟨some 48, none, .extract 0 (.slot 44)⟩,
  ⟨some 49, none, .extract 1 (.slot 44)⟩,
  ⟨none, none, .store true 2 (.slot 3) (.slot 48)⟩,
  ⟨some 8, none, .mov (.slot 49)⟩]
def c_law27_TokenOrder_R18 : List AOper := [⟨some 50, none, .mov (.slot 6)⟩,
  ⟨some 51, none, .idxarr 1 9 (.slot 4) (.slot 50)⟩,
  ⟨some 52, none, .load false 1 (.slot 51)⟩,
  ⟨some 53, none, .bin .eql (.slot 52) (.const (.int .i64 0))⟩]
def c_law27_TokenOrder_R19 : List AOper := [⟨some 54, none, .mov (.slot 6)⟩,
  ⟨some 55, none, .mov (.slot 5)⟩,
  ⟨some 56, none, .bin .add (.slot 55) (.const (.int .i64 1))⟩,
  ⟨some 57, none, .idxarr 1 9 (.slot 4) (.slot 54)⟩,
  ⟨none, none, .store false 1 (.slot 57) (.slot 56)⟩]
def c_law27_TokenOrder_R20 : List AOper := [⟨some 59, none, .bin .eql (.slot 41) (.const (.int .i64 1))⟩,
  ⟨some 58, none, .mov (.slot 59)⟩]
def c_law27_TokenOrder_R21 : List AOper := [⟨some 61, none, .load true 2 (.slot 3)⟩,
  ⟨some 62, none, .mov (.slot 6)⟩,
  ⟨some 63, none, .call .frz n_token_Free [(.slot 61), (.slot 62)]⟩,
  ⟨some 60, none, .mov (.slot 63)⟩,
  ⟨some 64, none, .extract 0 (.slot 60)⟩,
  ⟨some 65, none, .extract 1 (.slot 60)⟩,
  ⟨none, none, .store true 2 (.slot 3) (.slot 64)⟩,
  ⟨some 8, none, .mov (.slot 65)⟩]
def c_law27_TokenOrder_R22 : List AOper := [⟨some 66, none, .mov (.slot 6)⟩,
  ⟨some 67, none, .idxarr 1 9 (.slot 4) (.slot 66)⟩,
  ⟨none, none, .store false 1 (.slot 67) (.const (.int .i64 0))⟩]
def c_law27_TokenOrder_R23 : List AOper := [⟨some 69, none, .bin .eql (.slot 41) (.const (.int .i64 2))⟩,
  ⟨some 68, none, .mov (.slot 69)⟩]
def c_law27_TokenOrder_R24 : List AOper := [⟨some 9, none, .mknil 1⟩]
def c_law27_TokenOrder_R25 : List AOper := [⟨some 10, none, .mov (.const (.int .i64 8))⟩]
def c_law27_TokenOrder_R26 : List AOper := [⟨some 70, none, .mov (.slot 10)⟩,
  ⟨some 71, none, .bin .geq (.slot 70) (.const (.int .i64 1))⟩]
def c_law27_TokenOrder_R28 : List AOper := [⟨some 74, none, .mov (.slot 10)⟩,
  ⟨some 75, none, .mov (.slot 6)⟩,
  ⟨some 76, none, .bin .neq (.slot 74) (.slot 75)⟩]
def c_law27_TokenOrder_R29 : List AOper := [⟨some 77, none, .mov (.slot 9)⟩,
  ⟨some 78, none, .mov (.slot 10)⟩,
  ⟨some 79, none, .mkslice 1 1 [.int .i64 0] [(0, (.slot 78))]⟩,
  ⟨some 80, none, .append 1 8 (.slot 77) (.slot 79)⟩,
  ⟨some 9, none, .mov (.slot 80)⟩]
def c_law27_TokenOrder_R27 : List AOper := [⟨some 72, none, .mov (.slot 10)⟩,
  ⟨some 73, none, .bin .sub (.slot 72) (.const (.int .i64 1))⟩,
  ⟨some 10, none, .mov (.slot 73)⟩]
def c_law27_TokenOrder_L1 : ACode := (.seq (.seq (.region c_law27_TokenOrder_R26 false [0, 3, 4, 5, 6, 7, 9, 10, 71]) (.cond (.slot 71) .skip (.exit 3))) (.seq (.block 4 (.seq (.region c_law27_TokenOrder_R28 false [0, 3, 4, 5, 6, 7, 9, 10, 76]) (.cond (.slot 76) (.region c_law27_TokenOrder_R29 false [0, 3, 4, 5, 6, 7, 9, 10]) .skip))) (.region c_law27_TokenOrder_R27 false [0, 3, 4, 5, 6, 7, 9, 10])))
def lp_law27_TokenOrder_1 : ACode := .loop [0, 3, 4, 5, 6, 7, 9, 10] c_law27_TokenOrder_L1
def c_law27_TokenOrder_R30 : List AOper := [⟨some 82, none, .load true 2 (.slot 3)⟩,
  ⟨some 83, none, .mov (.slot 9)⟩,
  ⟨some 84, none, .call .frz n_token_Keep [(.slot 82), (.slot 83)]⟩,
  ⟨some 81, none, .mov (.slot 84)⟩,
  ⟨some 85, none, .extract 0 (.slot 81)⟩,
  ⟨some 86, none, .extract 1 (.slot 81)⟩,
  ⟨none, none, .store true 2 (.slot 3) (.slot 85)⟩,
  ⟨some 8, none, .mov (.slot 86)⟩]
def c_law27_TokenOrder_R31 : List AOper := [⟨some 87, none, .mov (.slot 6)⟩,
  ⟨some 88, none, .idxarr 1 9 (.slot 4) (.slot 87)⟩,
  ⟨none, none, .store false 1 (.slot 88) (.const (.int .i64 0))⟩]
def c_law27_TokenOrder_R32 : List AOper := [⟨some 89, none, .mov (.slot 8)⟩,
  ⟨some 90, none, .bin .neq (.slot 89) (.const (.int .i64 0))⟩,
  ⟨some 91, none, .mov (.slot 90)⟩,
  ⟨some 92, some (91, false), .load true 2 (.slot 3)⟩,
  ⟨some 93, some (91, false), .call .frz n_token_May [(.slot 92)]⟩,
  ⟨some 94, some (91, false), .not (.slot 93)⟩,
  ⟨some 95, none, .pick (.slot 91) (.const (.bool true)) (.slot 94)⟩]
def c_law27_TokenOrder_R33 : List AOper := [⟨some 2, none, .mov (.const (.bool false))⟩]
def c_law27_TokenOrder_R34 : List AOper := [⟨some 11, none, .mov (.const (.int .i64 0))⟩]
def c_law27_TokenOrder_R35 : List AOper := [⟨some 12, none, .mov (.const (.int .i64 1))⟩]
def c_law27_TokenOrder_R36 : List AOper := [⟨some 96, none, .mov (.slot 12)⟩,
  ⟨some 97, none, .bin .leq (.slot 96) (.const (.int .i64 8))⟩]
def c_law27_TokenOrder_R38 : List AOper := [⟨some 100, none, .mov (.slot 12)⟩,
  ⟨some 101, none, .idxarr 1 9 (.slot 4) (.slot 100)⟩,
  ⟨some 102, none, .load false 1 (.slot 101)⟩,
  ⟨some 103, none, .bin .gtr (.slot 102) (.const (.int .i64 0))⟩,
  ⟨some 104, none, .mov (.slot 103)⟩,
  ⟨some 105, some (104, true), .mov (.slot 11)⟩,
  ⟨some 106, some (104, true), .bin .eql (.slot 105) (.const (.int .i64 0))⟩,
  ⟨some 107, some (104, true), .mov (.slot 106)⟩,
  ⟨some 108, some (107, false), .mov (.slot 12)⟩,
  ⟨some 109, some (107, false), .idxarr 1 9 (.slot 4) (.slot 108)⟩,
  ⟨some 110, some (107, false), .load false 1 (.slot 109)⟩,
  ⟨some 111, some (107, false), .mov (.slot 11)⟩,
  ⟨some 112, some (107, false), .idxarr 1 9 (.slot 4) (.slot 111)⟩,
  ⟨some 113, some (107, false), .load false 1 (.slot 112)⟩,
  ⟨some 114, some (107, false), .bin .lss (.slot 110) (.slot 113)⟩,
  ⟨some 115, some (104, true), .pick (.slot 107) (.const (.bool true)) (.slot 114)⟩,
  ⟨some 116, none, .pick (.slot 104) (.slot 115) (.const (.bool false))⟩]
def c_law27_TokenOrder_R39 : List AOper := [⟨some 117, none, .mov (.slot 12)⟩,
  ⟨some 11, none, .mov (.slot 117)⟩]
def c_law27_TokenOrder_R40 : List AOper := [⟨some 118, none, .mov (.slot 12)⟩,
  ⟨some 119, none, .idxarr 1 9 (.slot 4) (.slot 118)⟩,
  ⟨some 120, none, .load false 1 (.slot 119)⟩,
  ⟨some 121, none, .bin .gtr (.slot 120) (.const (.int .i64 0))⟩,
  ⟨some 122, none, .load true 2 (.slot 3)⟩,
  ⟨some 123, none, .mov (.slot 12)⟩,
  ⟨some 124, none, .call .frz n_token_Place [(.slot 122), (.slot 123)]⟩,
  ⟨some 125, none, .bin .geq (.slot 124) (.const (.int .i64 0))⟩,
  ⟨some 126, none, .eq false [.kb] true (.slot 121) (.slot 125)⟩]
def c_law27_TokenOrder_R41 : List AOper := [⟨some 2, none, .mov (.const (.bool false))⟩]
def c_law27_TokenOrder_R42 : List AOper := [⟨some 13, none, .mov (.const (.int .i64 1))⟩]
def c_law27_TokenOrder_R43 : List AOper := [⟨some 127, none, .mov (.slot 13)⟩,
  ⟨some 128, none, .bin .leq (.slot 127) (.const (.int .i64 8))⟩]
def c_law27_TokenOrder_R45 : List AOper := [⟨some 131, none, .mov (.slot 12)⟩,
  ⟨some 132, none, .idxarr 1 9 (.slot 4) (.slot 131)⟩,
  ⟨some 133, none, .load false 1 (.slot 132)⟩,
  ⟨some 134, none, .bin .gtr (.slot 133) (.const (.int .i64 0))⟩,
  ⟨some 135, none, .mov (.slot 134)⟩,
  ⟨some 136, some (135, true), .mov (.slot 13)⟩,
  ⟨some 137, some (135, true), .idxarr 1 9 (.slot 4) (.slot 136)⟩,
  ⟨some 138, some (135, true), .load false 1 (.slot 137)⟩,
  ⟨some 139, some (135, true), .mov (.slot 12)⟩,
  ⟨some 140, some (135, true), .idxarr 1 9 (.slot 4) (.slot 139)⟩,
  ⟨some 141, some (135, true), .load false 1 (.slot 140)⟩,
  ⟨some 142, some (135, true), .bin .gtr (.slot 138) (.slot 141)⟩,
  ⟨some 143, none, .pick (.slot 135) (.slot 142) (.const (.bool false))⟩,
  ⟨some 144, none, .mov (.slot 143)⟩,
  ⟨some 145, some (144, true), .load true 2 (.slot 3)⟩,
  ⟨some 146, some (144, true), .mov (.slot 13)⟩,
  ⟨some 147, some (144, true), .call .frz n_token_Place [(.slot 145), (.slot 146)]⟩,
  ⟨some 148, some (144, true), .load true 2 (.slot 3)⟩,
  ⟨some 149, some (144, true), .mov (.slot 12)⟩,
  ⟨some 150, some (144, true), .call .frz n_token_Place [(.slot 148), (.slot 149)]⟩,
  ⟨some 151, some (144, true), .bin .lss (.slot 147) (.slot 150)⟩,
  ⟨some 152, none, .pick (.slot 144) (.slot 151) (.const (.bool false))⟩]
def c_law27_TokenOrder_R46 : List AOper := [⟨some 2, none, .mov (.const (.bool false))⟩]
def c_law27_TokenOrder_R44 : List AOper := [⟨some 129, none, .mov (.slot 13)⟩,
  ⟨some 130, none, .bin .add (.slot 129) (.const (.int .i64 1))⟩,
  ⟨some 13, none, .mov (.slot 130)⟩]
def c_law27_TokenOrder_L3 : ACode := (.seq (.seq (.region c_law27_TokenOrder_R43 false [0, 3, 4, 5, 6, 7, 11, 12, 13, 128]) (.cond (.slot 128) .skip (.exit 7))) (.seq (.block 8 (.seq (.region c_law27_TokenOrder_R45 true [0, 3, 4, 5, 6, 7, 11, 12, 13, 152]) (.cond (.slot 152) (.seq (.region c_law27_TokenOrder_R46 false [2]) .ret) .skip))) (.region c_law27_TokenOrder_R44 false [0, 3, 4, 5, 6, 7, 11, 12, 13])))
def lp_law27_TokenOrder_3 : ACode := .loop [0, 3, 4, 5, 6, 7, 11, 12, 13] c_law27_TokenOrder_L3
def c_law27_TokenOrder_R37 : List AOper := [⟨some 98, none, .mov (.slot 12)⟩,
  ⟨some 99, none, .bin .add (.slot 98) (.const (.int .i64 1))⟩,
  ⟨some 12, none, .mov (.slot 99)⟩]
def c_law27_TokenOrder_L2 : ACode := (.seq (.seq (.region c_law27_TokenOrder_R36 false [0, 3, 4, 5, 6, 7, 11, 12, 97]) (.cond (.slot 97) .skip (.exit 5))) (.seq (.block 6 (.seq (.seq (.region c_law27_TokenOrder_R38 true [0, 3, 4, 5, 6, 7, 11, 12, 116]) (.cond (.slot 116) (.region c_law27_TokenOrder_R39 false [0, 3, 4, 5, 6, 7, 11, 12]) .skip)) (.seq (.seq (.region c_law27_TokenOrder_R40 true [0, 3, 4, 5, 6, 7, 11, 12, 126]) (.cond (.slot 126) (.seq (.region c_law27_TokenOrder_R41 false [2]) .ret) .skip)) (.seq (.region c_law27_TokenOrder_R42 false [0, 3, 4, 5, 6, 7, 11, 12, 13]) (.block 7 lp_law27_TokenOrder_3))))) (.region c_law27_TokenOrder_R37 false [0, 3, 4, 5, 6, 7, 11, 12])))
def lp_law27_TokenOrder_2 : ACode := .loop [0, 3, 4, 5, 6, 7, 11, 12] c_law27_TokenOrder_L2
def c_law27_TokenOrder_R47 : List AOper := [⟨some 153, none, .faddr 0 (.slot 3)⟩,
  ⟨some 154, none, .load false 1 (.slot 153)⟩,
  ⟨some 155, none, .mov (.slot 11)⟩,
  ⟨some 156, none, .bin .neq (.slot 154) (.slot 155)⟩,
  ⟨some 157, none, .mov (.slot 156)⟩,
  ⟨some 158, some (157, false), .faddr 0 (.slot 3)⟩,
  ⟨some 159, some (157, false), .load false 1 (.slot 158)⟩,
  ⟨some 160, some (157, false), .faddr 0 (.slot 7)⟩,
  ⟨some 161, some (157, false), .load false 1 (.slot 160)⟩,
  ⟨some 162, some (157, false), .bin .neq (.slot 159) (.slot 161)⟩,
  ⟨some 163, some (157, false), .mov (.slot 162)⟩,
  ⟨some 164, some (163, true), .faddr 0 (.slot 7)⟩,
  ⟨some 165, some (163, true), .load false 1 (.slot 164)⟩,
  ⟨some 166, some (163, true), .bin .neq (.slot 165) (.const (.int .i64 0))⟩,
  ⟨some 167, some (157, false), .pick (.slot 163) (.slot 166) (.const (.bool false))⟩,
  ⟨some 168, some (157, false), .mov (.slot 167)⟩,
  ⟨some 169, some (168, true), .faddr 0 (.slot 7)⟩,
  ⟨some 170, some (168, true), .load false 1 (.slot 169)⟩,
  ⟨some 171, some (168, true), .mov (.slot 6)⟩,
  ⟨some 172, some (168, true), .bin .neq (.slot 170) (.slot 171)⟩,
  ⟨some 173, some (168, true), .mov (.slot 172)⟩,
  ⟨some 174, some (173, false), .mov (.slot 0)⟩,
  ⟨some 175, some (173, false), .mov (.slot 5)⟩,
  ⟨some 176, some (173, false), .idx 2 (.slot 174) (.slot 175)⟩,
  ⟨some 177, some (173, false), .faddr 0 (.slot 176)⟩,
  ⟨some 178, some (173, false), .load false 1 (.slot 177)⟩,
  ⟨some 179, some (173, false), .bin .eql (.slot 178) (.const (.int .i64 0))⟩,
  ⟨some 180, some (168, true), .pick (.slot 173) (.const (.bool true)) (.slot 179)⟩,
  ⟨some 181, some (157, false), .pick (.slot 168) (.slot 180) (.const (.bool false))⟩,
  ⟨some 182, none, .pick (.slot 157) (.const (.bool true)) (.slot 181)⟩]
def c_law27_TokenOrder_R48 : List AOper := [⟨some 2, none, .mov (.const (.bool false))⟩]
def c_law27_TokenOrder_R9 : List AOper := [⟨some 23, none, .mov (.slot 5)⟩,
  ⟨some 24, none, .bin .add (.slot 23) (.const (.int .i64 1))⟩,
  ⟨some 5, none, .mov (.slot 24)⟩]
def c_law27_TokenOrder_L0 : ACode := (.seq (.seq (.region c_law27_TokenOrder_R8 false [0, 3, 4, 5, 22]) (.cond (.slot 22) .skip (.exit 0))) (.seq (.block 1 (.seq (.region c_law27_TokenOrder_R10 false [0, 3, 4, 5, 6]) (.seq (.seq (.region c_law27_TokenOrder_R11 false [0, 3, 4, 5, 6, 35]) (.cond (.slot 35) (.seq (.region c_law27_TokenOrder_R12 false [2]) .ret) .skip)) (.seq (.region c_law27_TokenOrder_R13 false [0, 3, 4, 5, 6, 7]) (.seq (.region c_law27_TokenOrder_R14 false [0, 3, 4, 5, 6, 7, 8]) (.seq (.seq (.region c_law27_TokenOrder_R15 false [0, 3, 4, 5, 6, 7, 8, 41]) (.block 2 (.seq (.region c_law27_TokenOrder_R16 false [0, 3, 4, 5, 6, 7, 8, 41, 42]) (.cond (.slot 42) (.seq (.region c_law27_TokenOrder_R17 false [0, 3, 4, 5, 6, 7, 8]) (.seq (.region c_law27_TokenOrder_R18 false [0, 3, 4, 5, 6, 7, 8, 53]) (.cond (.slot 53) (.region c_law27_TokenOrder_R19 false [0, 3, 4, 5, 6, 7, 8]) .skip))) (.seq (.region c_law27_TokenOrder_R20 false [0, 3, 4, 5, 6, 7, 8, 41, 58]) (.cond (.slot 58) (.seq (.region c_law27_TokenOrder_R21 false [0, 3, 4, 5, 6, 7, 8]) (.region c_law27_TokenOrder_R22 false [0, 3, 4, 5, 6, 7, 8])) (.seq (.region c_law27_TokenOrder_R23 false [0, 3, 4, 5, 6, 7, 8, 68]) (.cond (.slot 68) (.seq (.region c_law27_TokenOrder_R24 false [0, 3, 4, 5, 6, 7, 9]) (.seq (.seq (.region c_law27_TokenOrder_R25 false [0, 3, 4, 5, 6, 7, 9, 10]) (.block 3 lp_law27_TokenOrder_1)) (.seq (.region c_law27_TokenOrder_R30 false [0, 3, 4, 5, 6, 7, 8]) (.region c_law27_TokenOrder_R31 false [0, 3, 4, 5, 6, 7, 8])))) .skip)))))))) (.seq (.seq (.region c_law27_TokenOrder_R32 false [0, 3, 4, 5, 6, 7, 95]) (.cond (.slot 95) (.seq (.region c_law27_TokenOrder_R33 false [2]) .ret) .skip)) (.seq (.region c_law27_TokenOrder_R34 false [0, 3, 4, 5, 6, 7, 11]) (.seq (.seq (.region c_law27_TokenOrder_R35 false [0, 3, 4, 5, 6, 7, 11, 12]) (.block 5 lp_law27_TokenOrder_2)) (.seq (.region c_law27_TokenOrder_R47 false [0, 3, 4, 5, 182]) (.cond (.slot 182) (.seq (.region c_law27_TokenOrder_R48 false [2]) .ret) .skip))))))))))) (.region c_law27_TokenOrder_R9 false [0, 3, 4, 5])))
def lp_law27_TokenOrder_0 : ACode := .loop [0, 3, 4, 5] c_law27_TokenOrder_L0
def c_law27_TokenOrder_R49 : List AOper := [⟨some 2, none, .mov (.const (.bool true))⟩]
def c_law27_TokenOrder : AFn := ⟨(.seq (.region c_law27_TokenOrder_R0 false [0]) (.seq (.seq (.region c_law27_TokenOrder_R1 false [0, 15]) (.cond (.slot 15) (.seq (.region c_law27_TokenOrder_R2 false [2]) .ret) .skip)) (.seq (.seq (.region c_law27_TokenOrder_R3 false [0, 18]) (.cond (.slot 18) (.seq (.region c_law27_TokenOrder_R4 false [2]) .ret) .skip)) (.seq (.region c_law27_TokenOrder_R5 false [0, 3]) (.seq (.region c_law27_TokenOrder_R6 false [0, 3, 4]) (.seq (.seq (.region c_law27_TokenOrder_R7 false [0, 3, 4, 5]) (.block 0 lp_law27_TokenOrder_0)) (.seq (.region c_law27_TokenOrder_R49 false [2]) .ret))))))), [.slot 2]⟩
/- oriel/oriellaw27.alike -/
def c_law27_alike_R0 : List AOper := [⟨some 2, none, .box 2 (.slot 0)⟩,
  ⟨some 3, none, .box 2 (.slot 1)⟩,
  ⟨some 4, none, .mov (.const (.bool false))⟩]
def c_law27_alike_R1 : List AOper := [⟨some 6, none, .faddr 0 (.slot 2)⟩,
  ⟨some 7, none, .load false 1 (.slot 6)⟩,
  ⟨some 8, none, .faddr 0 (.slot 3)⟩,
  ⟨some 9, none, .load false 1 (.slot 8)⟩,
  ⟨some 10, none, .bin .neq (.slot 7) (.slot 9)⟩,
  ⟨some 11, none, .mov (.slot 10)⟩,
  ⟨some 12, some (11, false), .faddr 1 (.slot 2)⟩,
  ⟨some 13, some (11, false), .load false 1 (.slot 12)⟩,
  ⟨some 14, some (11, false), .len false (.slot 13)⟩,
  ⟨some 15, some (11, false), .faddr 1 (.slot 3)⟩,
  ⟨some 16, some (11, false), .load false 1 (.slot 15)⟩,
  ⟨some 17, some (11, false), .len false (.slot 16)⟩,
  ⟨some 18, some (11, false), .bin .neq (.slot 14) (.slot 17)⟩,
  ⟨some 19, none, .pick (.slot 11) (.const (.bool true)) (.slot 18)⟩]
def c_law27_alike_R2 : List AOper := [⟨some 4, none, .mov (.const (.bool false))⟩]
def c_law27_alike_R3 : List AOper := [⟨some 5, none, .mov (.const (.int .i64 0))⟩]
def c_law27_alike_R4 : List AOper := [⟨some 20, none, .mov (.slot 5)⟩,
  ⟨some 21, none, .faddr 1 (.slot 2)⟩,
  ⟨some 22, none, .load false 1 (.slot 21)⟩,
  ⟨some 23, none, .len false (.slot 22)⟩,
  ⟨some 24, none, .bin .lss (.slot 20) (.slot 23)⟩]
def c_law27_alike_R6 : List AOper := [⟨some 27, none, .faddr 1 (.slot 2)⟩,
  ⟨some 28, none, .load false 1 (.slot 27)⟩,
  ⟨some 29, none, .mov (.slot 5)⟩,
  ⟨some 30, none, .idx 1 (.slot 28) (.slot 29)⟩,
  ⟨some 31, none, .load false 1 (.slot 30)⟩,
  ⟨some 32, none, .faddr 1 (.slot 3)⟩,
  ⟨some 33, none, .load false 1 (.slot 32)⟩,
  ⟨some 34, none, .mov (.slot 5)⟩,
  ⟨some 35, none, .idx 1 (.slot 33) (.slot 34)⟩,
  ⟨some 36, none, .load false 1 (.slot 35)⟩,
  ⟨some 37, none, .bin .neq (.slot 31) (.slot 36)⟩]
def c_law27_alike_R7 : List AOper := [⟨some 4, none, .mov (.const (.bool false))⟩]
def c_law27_alike_R5 : List AOper := [⟨some 25, none, .mov (.slot 5)⟩,
  ⟨some 26, none, .bin .add (.slot 25) (.const (.int .i64 1))⟩,
  ⟨some 5, none, .mov (.slot 26)⟩]
def c_law27_alike_L0 : ACode := (.seq (.seq (.region c_law27_alike_R4 false [2, 3, 5, 24]) (.cond (.slot 24) .skip (.exit 0))) (.seq (.block 1 (.seq (.region c_law27_alike_R6 true [2, 3, 5, 37]) (.cond (.slot 37) (.seq (.region c_law27_alike_R7 false [4]) .ret) .skip))) (.region c_law27_alike_R5 false [2, 3, 5])))
def lp_law27_alike_0 : ACode := .loop [2, 3, 5] c_law27_alike_L0
def c_law27_alike_R8 : List AOper := [⟨some 4, none, .mov (.const (.bool true))⟩]
def c_law27_alike : AFn := ⟨(.seq (.region c_law27_alike_R0 false [2, 3]) (.seq (.seq (.region c_law27_alike_R1 false [2, 3, 19]) (.cond (.slot 19) (.seq (.region c_law27_alike_R2 false [4]) .ret) .skip)) (.seq (.seq (.region c_law27_alike_R3 false [2, 3, 5]) (.block 0 lp_law27_alike_0)) (.seq (.region c_law27_alike_R8 false [4]) .ret)))), [.slot 4]⟩
/- oriel/oriellaw27.TokenKeeps -/
def c_law27_TokenKeeps_R0 : List AOper := [⟨some 4, none, .box 2 (.slot 0)⟩,
  ⟨some 8, none, .mov (.const (.bool false))⟩]
def c_law27_TokenKeeps_R1 : List AOper := [⟨some 27, none, .call .frz n_law27_known []⟩,
  ⟨some 28, none, .not (.slot 27)⟩]
def c_law27_TokenKeeps_R2 : List AOper := [⟨some 8, none, .mov (.const (.bool false))⟩]
def c_law27_TokenKeeps_R3 : List AOper := [⟨some 29, none, .mov (.slot 1)⟩,
  ⟨some 30, none, .len false (.slot 29)⟩,
  ⟨some 31, none, .bin .gtr (.slot 30) (.const (.int .i64 100))⟩,
  ⟨some 32, none, .mov (.slot 31)⟩,
  ⟨some 33, some (32, false), .mov (.slot 2)⟩,
  ⟨some 34, some (32, false), .len false (.slot 33)⟩,
  ⟨some 35, some (32, false), .bin .gtr (.slot 34) (.const (.int .i64 100))⟩,
  ⟨some 36, none, .pick (.slot 32) (.const (.bool true)) (.slot 35)⟩,
  ⟨some 37, none, .mov (.slot 36)⟩,
  ⟨some 38, some (37, false), .faddr 1 (.slot 4)⟩,
  ⟨some 39, some (37, false), .load false 1 (.slot 38)⟩,
  ⟨some 40, some (37, false), .len false (.slot 39)⟩,
  ⟨some 41, some (37, false), .bin .gtr (.slot 40) (.const (.int .i64 100))⟩,
  ⟨some 42, none, .pick (.slot 37) (.const (.bool true)) (.slot 41)⟩,
  ⟨some 43, none, .mov (.slot 42)⟩,
  ⟨some 44, some (43, false), .load true 2 (.slot 4)⟩,
  ⟨some 45, some (43, false), .call .frz n_token_May [(.slot 44)]⟩,
  ⟨some 46, some (43, false), .not (.slot 45)⟩,
  ⟨some 47, none, .pick (.slot 43) (.const (.bool true)) (.slot 46)⟩,
  ⟨some 48, none, .mov (.slot 47)⟩,
  ⟨some 49, some (48, false), .mov (.slot 3)⟩,
  ⟨some 50, some (48, false), .bin .lss (.slot 49) (.const (.int .i64 1))⟩,
  ⟨some 51, none, .pick (.slot 48) (.const (.bool true)) (.slot 50)⟩,
  ⟨some 52, none, .mov (.slot 51)⟩,
  ⟨some 53, some (52, false), .mov (.slot 3)⟩,
  ⟨some 54, some (52, false), .bin .gtr (.slot 53) (.const (.int .i64 8))⟩,
  ⟨some 55, none, .pick (.slot 52) (.const (.bool true)) (.slot 54)⟩]
def c_law27_TokenKeeps_R4 : List AOper := [⟨some 8, none, .mov (.const (.bool true))⟩]
def c_law27_TokenKeeps_R5 : List AOper := [⟨some 9, none, .mknil 1⟩,
  ⟨some 10, none, .mknil 1⟩]
def c_law27_TokenKeeps_R6 : List AOper := [⟨some 11, none, .mov (.const (.int .i64 1))⟩]
def c_law27_TokenKeeps_R7 : List AOper := [⟨some 56, none, .mov (.slot 11)⟩,
  ⟨some 57, none, .bin .leq (.slot 56) (.const (.int .i64 8))⟩]
def c_law27_TokenKeeps_R9 : List AOper := [⟨some 12, none, .mov (.const (.bool false))⟩,
  ⟨some 13, none, .mov (.const (.bool false))⟩]
def c_law27_TokenKeeps_R10 : List AOper := [⟨some 14, none, .mov (.const (.int .i64 0))⟩]
def c_law27_TokenKeeps_R11 : List AOper := [⟨some 60, none, .mov (.slot 14)⟩,
  ⟨some 61, none, .mov (.slot 1)⟩,
  ⟨some 62, none, .len false (.slot 61)⟩,
  ⟨some 63, none, .bin .lss (.slot 60) (.slot 62)⟩]
def c_law27_TokenKeeps_R13 : List AOper := [⟨some 66, none, .mov (.slot 12)⟩,
  ⟨some 67, none, .mov (.slot 66)⟩,
  ⟨some 68, some (67, false), .mov (.slot 1)⟩,
  ⟨some 69, some (67, false), .mov (.slot 14)⟩,
  ⟨some 70, some (67, false), .idx 1 (.slot 68) (.slot 69)⟩,
  ⟨some 71, some (67, false), .load false 1 (.slot 70)⟩,
  ⟨some 72, some (67, false), .mov (.slot 11)⟩,
  ⟨some 73, some (67, false), .bin .eql (.slot 71) (.slot 72)⟩,
  ⟨some 74, none, .pick (.slot 67) (.const (.bool true)) (.slot 73)⟩,
  ⟨some 12, none, .mov (.slot 74)⟩]
def c_law27_TokenKeeps_R12 : List AOper := [⟨some 64, none, .mov (.slot 14)⟩,
  ⟨some 65, none, .bin .add (.slot 64) (.const (.int .i64 1))⟩,
  ⟨some 14, none, .mov (.slot 65)⟩]
def c_law27_TokenKeeps_L1 : ACode := (.seq (.seq (.region c_law27_TokenKeeps_R11 false [1, 2, 3, 4, 9, 10, 11, 12, 13, 14, 63]) (.cond (.slot 63) .skip (.exit 2))) (.seq (.block 3 (.region c_law27_TokenKeeps_R13 false [1, 2, 3, 4, 9, 10, 11, 12, 13, 14])) (.region c_law27_TokenKeeps_R12 false [1, 2, 3, 4, 9, 10, 11, 12, 13, 14])))
def lp_law27_TokenKeeps_1 : ACode := .loop [1, 2, 3, 4, 9, 10, 11, 12, 13, 14] c_law27_TokenKeeps_L1
def c_law27_TokenKeeps_R14 : List AOper := [⟨some 15, none, .mov (.const (.int .i64 0))⟩]
def c_law27_TokenKeeps_R15 : List AOper := [⟨some 75, none, .mov (.slot 15)⟩,
  ⟨some 76, none, .mov (.slot 2)⟩,
  ⟨some 77, none, .len false (.slot 76)⟩,
  ⟨some 78, none, .bin .lss (.slot 75) (.slot 77)⟩]
def c_law27_TokenKeeps_R17 : List AOper := [⟨some 81, none, .mov (.slot 13)⟩,
  ⟨some 82, none, .mov (.slot 81)⟩,
  ⟨some 83, some (82, false), .mov (.slot 2)⟩,
  ⟨some 84, some (82, false), .mov (.slot 15)⟩,
  ⟨some 85, some (82, false), .idx 1 (.slot 83) (.slot 84)⟩,
  ⟨some 86, some (82, false), .load false 1 (.slot 85)⟩,
  ⟨some 87, some (82, false), .mov (.slot 11)⟩,
  ⟨some 88, some (82, false), .bin .eql (.slot 86) (.slot 87)⟩,
  ⟨some 89, none, .pick (.slot 82) (.const (.bool true)) (.slot 88)⟩,
  ⟨some 13, none, .mov (.slot 89)⟩]
def c_law27_TokenKeeps_R16 : List AOper := [⟨some 79, none, .mov (.slot 15)⟩,
  ⟨some 80, none, .bin .add (.slot 79) (.const (.int .i64 1))⟩,
  ⟨some 15, none, .mov (.slot 80)⟩]
def c_law27_TokenKeeps_L2 : ACode := (.seq (.seq (.region c_law27_TokenKeeps_R15 false [1, 2, 3, 4, 9, 10, 11, 12, 13, 15, 78]) (.cond (.slot 78) .skip (.exit 4))) (.seq (.block 5 (.region c_law27_TokenKeeps_R17 false [1, 2, 3, 4, 9, 10, 11, 12, 13, 15])) (.region c_law27_TokenKeeps_R16 false [1, 2, 3, 4, 9, 10, 11, 12, 13, 15])))
def lp_law27_TokenKeeps_2 : ACode := .loop [1, 2, 3, 4, 9, 10, 11, 12, 13, 15] c_law27_TokenKeeps_L2
def c_law27_TokenKeeps_R18 : List AOper := [⟨some 90, none, .mov (.slot 12)⟩,
  ⟨some 91, none, .mov (.slot 90)⟩,
  ⟨some 92, some (91, true), .mov (.slot 13)⟩,
  ⟨some 93, none, .pick (.slot 91) (.slot 92) (.const (.bool false))⟩]
def c_law27_TokenKeeps_R19 : List AOper := [⟨some 94, none, .mov (.slot 9)⟩,
  ⟨some 95, none, .mov (.slot 11)⟩,
  ⟨some 96, none, .mkslice 1 1 [.int .i64 0] [(0, (.slot 95))]⟩,
  ⟨some 97, none, .append 1 8 (.slot 94) (.slot 96)⟩,
  ⟨some 9, none, .mov (.slot 97)⟩]
def c_law27_TokenKeeps_R20 : List AOper := [⟨some 98, none, .mov (.slot 11)⟩,
  ⟨some 99, none, .mov (.slot 3)⟩,
  ⟨some 100, none, .bin .neq (.slot 98) (.slot 99)⟩]
def c_law27_TokenKeeps_R21 : List AOper := [⟨some 101, none, .mov (.slot 10)⟩,
  ⟨some 102, none, .mov (.slot 11)⟩,
  ⟨some 103, none, .mkslice 1 1 [.int .i64 0] [(0, (.slot 102))]⟩,
  ⟨some 104, none, .append 1 8 (.slot 101) (.slot 103)⟩,
  ⟨some 10, none, .mov (.slot 104)⟩]
def c_law27_TokenKeeps_R8 : List AOper := [⟨some 58, none, .mov (.slot 11)⟩,
  ⟨some 59, none, .bin .add (.slot 58) (.const (.int .i64 1))⟩,
  ⟨some 11, none, .mov (.slot 59)⟩]
def c_law27_TokenKeeps_L0 : ACode := (.seq (.seq (.region c_law27_TokenKeeps_R7 false [1, 2, 3, 4, 9, 10, 11, 57]) (.cond (.slot 57) .skip (.exit 0))) (.seq (.block 1 (.seq (.region c_law27_TokenKeeps_R9 false [1, 2, 3, 4, 9, 10, 11, 12, 13]) (.seq (.seq (.region c_law27_TokenKeeps_R10 false [1, 2, 3, 4, 9, 10, 11, 12, 13, 14]) (.block 2 lp_law27_TokenKeeps_1)) (.seq (.seq (.region c_law27_TokenKeeps_R14 false [1, 2, 3, 4, 9, 10, 11, 12, 13, 15]) (.block 4 lp_law27_TokenKeeps_2)) (.seq (.seq (.region c_law27_TokenKeeps_R18 false [1, 2, 3, 4, 9, 10, 11, 93]) (.cond (.slot 93) (.region c_law27_TokenKeeps_R19 false [1, 2, 3, 4, 9, 10, 11]) .skip)) (.seq (.region c_law27_TokenKeeps_R20 false [1, 2, 3, 4, 9, 10, 11, 100]) (.cond (.slot 100) (.region c_law27_TokenKeeps_R21 false [1, 2, 3, 4, 9, 10, 11]) .skip))))))) (.region c_law27_TokenKeeps_R8 false [1, 2, 3, 4, 9, 10, 11])))
def lp_law27_TokenKeeps_0 : ACode := .loop [1, 2, 3, 4, 9, 10, 11] c_law27_TokenKeeps_L0
def c_law27_TokenKeeps_R22 : List AOper := [⟨some 106, none, .load true 2 (.slot 4)⟩,
  ⟨some 107, none, .mov (.slot 1)⟩,
  ⟨some 108, none, .call .frz n_token_Keep [(.slot 106), (.slot 107)]⟩,
  ⟨some 105, none, .mov (.slot 108)⟩,
  ⟨some 109, none, .extract 0 (.slot 105)⟩,
  ⟨some 110, none, .extract 1 (.slot 105)⟩,
  ⟨some 16, none, .alloc [.int .i64 0, .data false 1 [] true]⟩,
  ⟨none, none, .store true 2 (.slot 16) (.slot 109)⟩,
  ⟨some 17, none, .mov (.slot 110)⟩]
def c_law27_TokenKeeps_R23 : List AOper := [⟨some 112, none, .load true 2 (.slot 16)⟩,
  ⟨some 113, none, .mov (.slot 2)⟩,
  ⟨some 114, none, .call .frz n_token_Keep [(.slot 112), (.slot 113)]⟩,
  ⟨some 111, none, .mov (.slot 114)⟩,
  ⟨some 115, none, .extract 0 (.slot 111)⟩,
  ⟨some 116, none, .extract 1 (.slot 111)⟩,
  ⟨none, none, .store true 2 (.slot 16) (.slot 115)⟩,
  ⟨some 18, none, .mov (.slot 116)⟩]
def c_law27_TokenKeeps_R24 : List AOper := [⟨some 118, none, .load true 2 (.slot 4)⟩,
  ⟨some 119, none, .mov (.slot 9)⟩,
  ⟨some 120, none, .call .frz n_token_Keep [(.slot 118), (.slot 119)]⟩,
  ⟨some 117, none, .mov (.slot 120)⟩,
  ⟨some 121, none, .extract 0 (.slot 117)⟩,
  ⟨some 122, none, .extract 1 (.slot 117)⟩,
  ⟨some 19, none, .alloc [.int .i64 0, .data false 1 [] true]⟩,
  ⟨none, none, .store true 2 (.slot 19) (.slot 121)⟩,
  ⟨some 20, none, .mov (.slot 122)⟩]
def c_law27_TokenKeeps_R25 : List AOper := [⟨some 124, none, .load true 2 (.slot 4)⟩,
  ⟨some 125, none, .mkslice 1 8 [.int .i64 0] [(0, (.const (.int .i64 8))), (1, (.const (.int .i64 7))), (2, (.const (.int .i64 6))), (3, (.const (.int .i64 5))), (4, (.const (.int .i64 4))), (5, (.const (.int .i64 3))), (6, (.const (.int .i64 2))), (7, (.const (.int .i64 1)))]⟩,
  ⟨some 126, none, .call .frz n_token_Keep [(.slot 124), (.slot 125)]⟩,
  ⟨some 123, none, .mov (.slot 126)⟩,
  ⟨some 127, none, .extract 0 (.slot 123)⟩,
  ⟨some 128, none, .extract 1 (.slot 123)⟩,
  ⟨some 21, none, .alloc [.int .i64 0, .data false 1 [] true]⟩,
  ⟨none, none, .store true 2 (.slot 21) (.slot 127)⟩,
  ⟨some 22, none, .mov (.slot 128)⟩]
def c_law27_TokenKeeps_R26 : List AOper := [⟨some 130, none, .load true 2 (.slot 4)⟩,
  ⟨some 131, none, .mov (.slot 3)⟩,
  ⟨some 132, none, .call .frz n_token_Free [(.slot 130), (.slot 131)]⟩,
  ⟨some 129, none, .mov (.slot 132)⟩,
  ⟨some 133, none, .extract 0 (.slot 129)⟩,
  ⟨some 134, none, .extract 1 (.slot 129)⟩,
  ⟨some 23, none, .alloc [.int .i64 0, .data false 1 [] true]⟩,
  ⟨none, none, .store true 2 (.slot 23) (.slot 133)⟩,
  ⟨some 24, none, .mov (.slot 134)⟩]
def c_law27_TokenKeeps_R27 : List AOper := [⟨some 136, none, .load true 2 (.slot 4)⟩,
  ⟨some 137, none, .mov (.slot 10)⟩,
  ⟨some 138, none, .call .frz n_token_Keep [(.slot 136), (.slot 137)]⟩,
  ⟨some 135, none, .mov (.slot 138)⟩,
  ⟨some 139, none, .extract 0 (.slot 135)⟩,
  ⟨some 140, none, .extract 1 (.slot 135)⟩,
  ⟨some 25, none, .alloc [.int .i64 0, .data false 1 [] true]⟩,
  ⟨none, none, .store true 2 (.slot 25) (.slot 139)⟩,
  ⟨some 26, none, .mov (.slot 140)⟩]
def c_law27_TokenKeeps_R28 : List AOper := [⟨some 141, none, .mov (.slot 17)⟩,
  ⟨some 142, none, .bin .neq (.slot 141) (.const (.int .i64 0))⟩,
  ⟨some 143, none, .mov (.slot 142)⟩,
  ⟨some 144, some (143, false), .mov (.slot 18)⟩,
  ⟨some 145, some (143, false), .bin .neq (.slot 144) (.const (.int .i64 0))⟩,
  ⟨some 146, none, .pick (.slot 143) (.const (.bool true)) (.slot 145)⟩,
  ⟨some 147, none, .mov (.slot 146)⟩,
  ⟨some 148, some (147, false), .mov (.slot 20)⟩,
  ⟨some 149, some (147, false), .bin .neq (.slot 148) (.const (.int .i64 0))⟩,
  ⟨some 150, none, .pick (.slot 147) (.const (.bool true)) (.slot 149)⟩,
  ⟨some 151, none, .mov (.slot 150)⟩,
  ⟨some 152, some (151, false), .mov (.slot 22)⟩,
  ⟨some 153, some (151, false), .bin .neq (.slot 152) (.const (.int .i64 0))⟩,
  ⟨some 154, none, .pick (.slot 151) (.const (.bool true)) (.slot 153)⟩,
  ⟨some 155, none, .mov (.slot 154)⟩,
  ⟨some 156, some (155, false), .mov (.slot 24)⟩,
  ⟨some 157, some (155, false), .bin .neq (.slot 156) (.const (.int .i64 0))⟩,
  ⟨some 158, none, .pick (.slot 155) (.const (.bool true)) (.slot 157)⟩,
  ⟨some 159, none, .mov (.slot 158)⟩,
  ⟨some 160, some (159, false), .mov (.slot 26)⟩,
  ⟨some 161, some (159, false), .bin .neq (.slot 160) (.const (.int .i64 0))⟩,
  ⟨some 162, none, .pick (.slot 159) (.const (.bool true)) (.slot 161)⟩]
def c_law27_TokenKeeps_R29 : List AOper := [⟨some 8, none, .mov (.const (.bool false))⟩]
def c_law27_TokenKeeps_R30 : List AOper := [⟨some 163, none, .load true 2 (.slot 16)⟩,
  ⟨some 164, none, .load true 2 (.slot 19)⟩,
  ⟨some 165, none, .call .frz n_law27_alike [(.slot 163), (.slot 164)]⟩,
  ⟨some 166, none, .mov (.slot 165)⟩,
  ⟨some 167, some (166, true), .load true 2 (.slot 21)⟩,
  ⟨some 168, some (166, true), .load true 2 (.slot 4)⟩,
  ⟨some 169, some (166, true), .call .frz n_law27_alike [(.slot 167), (.slot 168)]⟩,
  ⟨some 170, none, .pick (.slot 166) (.slot 169) (.const (.bool false))⟩,
  ⟨some 171, none, .mov (.slot 170)⟩,
  ⟨some 172, some (171, true), .load true 2 (.slot 23)⟩,
  ⟨some 173, some (171, true), .load true 2 (.slot 25)⟩,
  ⟨some 174, some (171, true), .call .frz n_law27_alike [(.slot 172), (.slot 173)]⟩,
  ⟨some 175, none, .pick (.slot 171) (.slot 174) (.const (.bool false))⟩,
  ⟨some 8, none, .mov (.slot 175)⟩]
def c_law27_TokenKeeps : AFn := ⟨(.seq (.region c_law27_TokenKeeps_R0 false [1, 2, 3, 4]) (.seq (.seq (.region c_law27_TokenKeeps_R1 false [1, 2, 3, 4, 28]) (.cond (.slot 28) (.seq (.region c_law27_TokenKeeps_R2 false [8]) .ret) .skip)) (.seq (.seq (.region c_law27_TokenKeeps_R3 false [1, 2, 3, 4, 55]) (.cond (.slot 55) (.seq (.region c_law27_TokenKeeps_R4 false [8]) .ret) .skip)) (.seq (.region c_law27_TokenKeeps_R5 false [1, 2, 3, 4, 9, 10]) (.seq (.seq (.region c_law27_TokenKeeps_R6 false [1, 2, 3, 4, 9, 10, 11]) (.block 0 lp_law27_TokenKeeps_0)) (.seq (.region c_law27_TokenKeeps_R22 false [2, 3, 4, 9, 10, 16, 17]) (.seq (.region c_law27_TokenKeeps_R23 false [3, 4, 9, 10, 16, 17, 18]) (.seq (.region c_law27_TokenKeeps_R24 false [3, 4, 10, 16, 17, 18, 19, 20]) (.seq (.region c_law27_TokenKeeps_R25 false [3, 4, 10, 16, 17, 18, 19, 20, 21, 22]) (.seq (.region c_law27_TokenKeeps_R26 false [4, 10, 16, 17, 18, 19, 20, 21, 22, 23, 24]) (.seq (.region c_law27_TokenKeeps_R27 false [4, 16, 17, 18, 19, 20, 21, 22, 23, 24, 25, 26]) (.seq (.seq (.region c_law27_TokenKeeps_R28 false [4, 16, 19, 21, 23, 25, 162]) (.cond (.slot 162) (.seq (.region c_law27_TokenKeeps_R29 false [8]) .ret) .skip)) (.seq (.region c_law27_TokenKeeps_R30 false [8]) .ret))))))))))))), [.slot 8]⟩
/- slices.IndexFunc[[]oriel/api.Member,oriel/api.Member] -/
def c_slices_IndexFunc_Member_R0 : List AOper := [⟨some 4, none, .mov (.const (.int .i64 0))⟩]
def c_slices_IndexFunc_Member_R1 : List AOper := [⟨some 6, none, .mov (.slot 0)⟩,
  ⟨some 7, none, .len false (.slot 6)⟩,
  ⟨some 8, none, .mov (.const (.int .i64 0))⟩]
def c_slices_IndexFunc_Member_R2 : List AOper := [⟨some 9, none, .bin .lss (.slot 8) (.slot 7)⟩]
def c_slices_IndexFunc_Member_R3 : List AOper := [⟨some 10, none, .mov (.slot 8)⟩,
  ⟨some 5, none, .mov (.slot 10)⟩]
def c_slices_IndexFunc_Member_R4 : List AOper := [⟨some 11, none, .mov (.slot 1)⟩,
  ⟨some 12, none, .mov (.slot 0)⟩,
  ⟨some 13, none, .mov (.slot 5)⟩,
  ⟨some 14, none, .idx 2 (.slot 12) (.slot 13)⟩,
  ⟨some 15, none, .load true 2 (.slot 14)⟩,
  ⟨some 16, none, .callv (.slot 11) [(.slot 15)]⟩]
def c_slices_IndexFunc_Member_R5 : List AOper := [⟨some 17, none, .mov (.slot 5)⟩,
  ⟨some 4, none, .mov (.slot 17)⟩]
def c_slices_IndexFunc_Member_R6 : List AOper := [⟨some 18, none, .bin .add (.slot 8) (.const (.int .i64 1))⟩,
  ⟨some 8, none, .mov (.slot 18)⟩]
def c_slices_IndexFunc_Member_L0 : ACode := (.seq (.region c_slices_IndexFunc_Member_R2 false [0, 1, 7, 8, 9]) (.seq (.cond (.slot 9) .skip (.exit 0)) (.seq (.block 1 (.seq (.region c_slices_IndexFunc_Member_R3 false [0, 1, 5, 7, 8]) (.seq (.region c_slices_IndexFunc_Member_R4 false [0, 1, 5, 7, 8, 16]) (.cond (.slot 16) (.seq (.region c_slices_IndexFunc_Member_R5 false [4]) .ret) .skip)))) (.region c_slices_IndexFunc_Member_R6 false [0, 1, 7, 8]))))
def lp_slices_IndexFunc_Member_0 : ACode := .loop [0, 1, 7, 8] c_slices_IndexFunc_Member_L0
def c_slices_IndexFunc_Member_R7 : List AOper := [⟨some 4, none, .mov (.const (.int .i64 (-1)))⟩]
def c_slices_IndexFunc_Member : AFn := ⟨(.seq (.region c_slices_IndexFunc_Member_R0 false [0, 1]) (.seq (.seq (.region c_slices_IndexFunc_Member_R1 false [0, 1, 7, 8]) (.block 0 lp_slices_IndexFunc_Member_0)) (.seq (.region c_slices_IndexFunc_Member_R7 false [4]) .ret))), [.slot 4]⟩
/- slices.ContainsFunc[[]oriel/api.Member,oriel/api.Member] -/
def c_slices_ContainsFunc_Member_R0 : List AOper := [⟨some 4, none, .mov (.const (.bool false))⟩]
def c_slices_ContainsFunc_Member_R1 : List AOper := [⟨some 5, none, .mov (.slot 0)⟩,
  ⟨some 6, none, .mov (.slot 1)⟩,
  ⟨some 7, none, .call .inl n_slices_IndexFunc_Member [(.slot 5), (.slot 6)]⟩,
  ⟨some 8, none, .bin .geq (.slot 7) (.const (.int .i64 0))⟩,
  ⟨some 4, none, .mov (.slot 8)⟩]
def c_slices_ContainsFunc_Member : AFn := ⟨(.seq (.region c_slices_ContainsFunc_Member_R0 false [0, 1]) (.seq (.region c_slices_ContainsFunc_Member_R1 false [4]) .ret)), [.slot 4]⟩
/- oriel/roster.role -/
def c_roster_role_R0 : List AOper := [⟨some 2, none, .mov (.const (.bool false))⟩]
def c_roster_role_R1 : List AOper := [⟨some 3, none, .mov (.slot 0)⟩,
  ⟨some 4, none, .bin .eql (.slot 3) (.const (.int .i64 1))⟩,
  ⟨some 5, none, .mov (.slot 4)⟩,
  ⟨some 6, some (5, false), .mov (.slot 0)⟩,
  ⟨some 7, some (5, false), .bin .eql (.slot 6) (.const (.int .i64 2))⟩,
  ⟨some 8, none, .pick (.slot 5) (.const (.bool true)) (.slot 7)⟩,
  ⟨some 2, none, .mov (.slot 8)⟩]
def c_roster_role : AFn := ⟨(.seq (.region c_roster_role_R0 false [0]) (.seq (.region c_roster_role_R1 false [2]) .ret)), [.slot 2]⟩
/- oriel/roster.May'1 -/
def c_roster_May_1_R0 : List AOper := [⟨some 2, none, .box 2 (.slot 0)⟩,
  ⟨some 3, none, .mov (.const (.bool false))⟩]
def c_roster_May_1_R1 : List AOper := [⟨some 5, none, .faddr 0 (.slot 2)⟩,
  ⟨some 6, none, .load false 1 (.slot 5)⟩,
  ⟨some 7, none, .load false 1 (.slot 1)⟩,
  ⟨some 8, none, .bin .leq (.slot 6) (.slot 7)⟩,
  ⟨some 9, none, .mov (.slot 8)⟩,
  ⟨some 10, some (9, false), .faddr 0 (.slot 2)⟩,
  ⟨some 11, some (9, false), .load false 1 (.slot 10)⟩,
  ⟨some 12, some (9, false), .bin .gtr (.slot 11) (.const (.int .i64 8))⟩,
  ⟨some 13, none, .pick (.slot 9) (.const (.bool true)) (.slot 12)⟩,
  ⟨some 14, none, .mov (.slot 13)⟩,
  ⟨some 15, some (14, false), .faddr 1 (.slot 2)⟩,
  ⟨some 16, some (14, false), .load false 1 (.slot 15)⟩,
  ⟨some 17, some (14, false), .call .frz n_roster_role [(.slot 16)]⟩,
  ⟨some 18, some (14, false), .not (.slot 17)⟩,
  ⟨some 19, none, .pick (.slot 14) (.const (.bool true)) (.slot 18)⟩,
  ⟨some 4, none, .mov (.slot 19)⟩]
def c_roster_May_1_R2 : List AOper := [⟨some 20, none, .faddr 0 (.slot 2)⟩,
  ⟨some 21, none, .load false 1 (.slot 20)⟩,
  ⟨none, none, .store false 1 (.slot 1) (.slot 21)⟩]
def c_roster_May_1_R3 : List AOper := [⟨some 22, none, .mov (.slot 4)⟩,
  ⟨some 3, none, .mov (.slot 22)⟩]
def c_roster_May_1 : AFn := ⟨(.seq (.region c_roster_May_1_R0 false [1, 2]) (.seq (.region c_roster_May_1_R1 false [1, 2, 4]) (.seq (.region c_roster_May_1_R2 false [4]) (.seq (.region c_roster_May_1_R3 false [3]) .ret)))), [.slot 3]⟩
/- oriel/roster.May -/
def c_roster_May_R0 : List AOper := [⟨some 2, none, .mov (.const (.bool false))⟩]
def c_roster_May_R1 : List AOper := [⟨some 3, none, .alloc [.int .i64 0]⟩,
  ⟨none, none, .store false 1 (.slot 3) (.const (.int .i64 0))⟩]
def c_roster_May_R2 : List AOper := [⟨some 4, none, .mov (.slot 0)⟩,
  ⟨some 5, none, .mkfn (.func n_roster_May_1) [] [(.slot 3)]⟩,
  ⟨some 6, none, .call .inl n_slices_ContainsFunc_Member [(.slot 4), (.slot 5)]⟩,
  ⟨some 7, none, .not (.slot 6)⟩,
  ⟨some 2, none, .mov (.slot 7)⟩]
def c_roster_May : AFn := ⟨(.seq (.region c_roster_May_R0 false [0]) (.seq (.region c_roster_May_R1 false [0, 3]) (.seq (.region c_roster_May_R2 false [2]) .ret))), [.slot 2]⟩
/- slices.BinarySearchFunc[[]oriel/api.Member,oriel/api.Member,int] -/
def c_slices_BinarySearchFunc_Member_int_R0 : List AOper := [⟨some 6, none, .mov (.const (.int .i64 0))⟩,
  ⟨some 7, none, .mov (.const (.bool false))⟩]
def c_slices_BinarySearchFunc_Member_int_R1 : List AOper := [⟨some 12, none, .mov (.slot 0)⟩,
  ⟨some 13, none, .len false (.slot 12)⟩,
  ⟨some 8, none, .mov (.slot 13)⟩]
def c_slices_BinarySearchFunc_Member_int_R2 : List AOper := [⟨some 14, none, .mov (.slot 8)⟩,
  ⟨some 9, none, .mov (.const (.int .i64 0))⟩,
  ⟨some 10, none, .mov (.slot 14)⟩]
def c_slices_BinarySearchFunc_Member_int_R3 : List AOper := [⟨some 15, none, .mov (.slot 9)⟩,
  ⟨some 16, none, .mov (.slot 10)⟩,
  ⟨some 17, none, .bin .lss (.slot 15) (.slot 16)⟩]
def c_slices_BinarySearchFunc_Member_int_R4 : List AOper := [⟨some 18, none, .mov (.slot 9)⟩,
  ⟨some 19, none, .mov (.slot 10)⟩,
  ⟨some 20, none, .bin .add (.slot 18) (.slot 19)⟩,
  ⟨some 21, none, .conv .u64 (.slot 20)⟩,
  ⟨some 22, none, .bin .shr (.slot 21) (.const (.int .u64 1))⟩,
  ⟨some 23, none, .conv .i64 (.slot 22)⟩,
  ⟨some 11, none, .mov (.slot 23)⟩]
def c_slices_BinarySearchFunc_Member_int_R5 : List AOper := [⟨some 24, none, .mov (.slot 2)⟩,
  ⟨some 25, none, .mov (.slot 0)⟩,
  ⟨some 26, none, .mov (.slot 11)⟩,
  ⟨some 27, none, .idx 2 (.slot 25) (.slot 26)⟩,
  ⟨some 28, none, .load true 2 (.slot 27)⟩,
  ⟨some 29, none, .mov (.slot 1)⟩,
  ⟨some 30, none, .callv (.slot 24) [(.slot 28), (.slot 29)]⟩,
  ⟨some 31, none, .bin .lss (.slot 30) (.const (.int .i64 0))⟩]
def c_slices_BinarySearchFunc_Member_int_R6 : List AOper := [⟨some 32, none, .mov (.slot 11)⟩,
  ⟨some 33, none, .bin .add (.slot 32) (.const (.int .i64 1))⟩,
  ⟨some 9, none, .mov (.slot 33)⟩]
def c_slices_BinarySearchFunc_Member_int_R7 : List AOper := [⟨some 34, none, .mov (.slot 11)⟩,
  ⟨some 10, none, .mov (.slot 34)⟩]
def c_slices_BinarySearchFunc_Member_int_L0 : ACode := (.seq (.seq (.region c_slices_BinarySearchFunc_Member_int_R3 false [0, 1, 2, 8, 9, 10, 17]) (.cond (.slot 17) .skip (.exit 0))) (.block 1 (.seq (.region c_slices_BinarySearchFunc_Member_int_R4 false [0, 1, 2, 8, 9, 10, 11]) (.seq (.region c_slices_BinarySearchFunc_Member_int_R5 false [0, 1, 2, 8, 9, 10, 11, 31]) (.cond (.slot 31) (.region c_slices_BinarySearchFunc_Member_int_R6 false [0, 1, 2, 8, 9, 10]) (.region c_slices_BinarySearchFunc_Member_int_R7 false [0, 1, 2, 8, 9, 10]))))))
def lp_slices_BinarySearchFunc_Member_int_0 : ACode := .loop [0, 1, 2, 8, 9, 10] c_slices_BinarySearchFunc_Member_int_L0
def c_slices_BinarySearchFunc_Member_int_R8 : List AOper := [⟨some 35, none, .mov (.slot 9)⟩,
  ⟨some 36, none, .mov (.slot 9)⟩,
  ⟨some 37, none, .mov (.slot 8)⟩,
  ⟨some 38, none, .bin .lss (.slot 36) (.slot 37)⟩,
  ⟨some 39, none, .mov (.slot 38)⟩,
  ⟨some 40, some (39, true), .mov (.slot 2)⟩,
  ⟨some 41, some (39, true), .mov (.slot 0)⟩,
  ⟨some 42, some (39, true), .mov (.slot 9)⟩,
  ⟨some 43, some (39, true), .idx 2 (.slot 41) (.slot 42)⟩,
  ⟨some 44, some (39, true), .load true 2 (.slot 43)⟩,
  ⟨some 45, some (39, true), .mov (.slot 1)⟩,
  ⟨some 46, some (39, true), .callv (.slot 40) [(.slot 44), (.slot 45)]⟩,
  ⟨some 47, some (39, true), .bin .eql (.slot 46) (.const (.int .i64 0))⟩,
  ⟨some 48, none, .pick (.slot 39) (.slot 47) (.const (.bool false))⟩,
  ⟨some 6, none, .mov (.slot 35)⟩,
  ⟨some 7, none, .mov (.slot 48)⟩]
def c_slices_BinarySearchFunc_Member_int : AFn := ⟨(.seq (.region c_slices_BinarySearchFunc_Member_int_R0 false [0, 1, 2]) (.seq (.region c_slices_BinarySearchFunc_Member_int_R1 false [0, 1, 2, 8]) (.seq (.region c_slices_BinarySearchFunc_Member_int_R2 false [0, 1, 2, 8, 9, 10]) (.seq (.block 0 lp_slices_BinarySearchFunc_Member_int_0) (.seq (.region c_slices_BinarySearchFunc_Member_int_R8 false [6, 7]) .ret))))), [.slot 6, .slot 7]⟩
/- oriel/roster.place'1 -/
def c_roster_place_1_R0 : List AOper := [⟨some 2, none, .box 2 (.slot 0)⟩,
  ⟨some 4, none, .mov (.const (.int .i64 0))⟩]
def c_roster_place_1_R1 : List AOper := [⟨some 5, none, .faddr 0 (.slot 2)⟩,
  ⟨some 6, none, .load false 1 (.slot 5)⟩,
  ⟨some 7, none, .mov (.slot 1)⟩,
  ⟨some 8, none, .bin .sub (.slot 6) (.slot 7)⟩,
  ⟨some 4, none, .mov (.slot 8)⟩]
def c_roster_place_1 : AFn := ⟨(.seq (.region c_roster_place_1_R0 false [1, 2]) (.seq (.region c_roster_place_1_R1 false [4]) .ret)), [.slot 4]⟩
/- oriel/roster.place -/
def c_roster_place_R0 : List AOper := [⟨some 4, none, .mov (.const (.int .i64 0))⟩,
  ⟨some 5, none, .mov (.const (.bool false))⟩]
def c_roster_place_R1 : List AOper := [⟨some 6, none, .mov (.slot 0)⟩,
  ⟨some 7, none, .mov (.slot 1)⟩,
  ⟨some 8, none, .call .inl n_slices_BinarySearchFunc_Member_int [(.slot 6), (.slot 7), (.func n_roster_place_1)]⟩,
  ⟨some 9, none, .extract 0 (.slot 8)⟩,
  ⟨some 10, none, .extract 1 (.slot 8)⟩,
  ⟨some 4, none, .mov (.slot 9)⟩,
  ⟨some 5, none, .mov (.slot 10)⟩]
def c_roster_place : AFn := ⟨(.seq (.region c_roster_place_R0 false [0, 1]) (.seq (.region c_roster_place_R1 false [4, 5]) .ret)), [.slot 4, .slot 5]⟩
/- oriel/roster.Find -/
def c_roster_Find_R0 : List AOper := [⟨some 4, none, .alloc [.int .i64 0, .int .i64 0]⟩,
  ⟨some 5, none, .mov (.const (.bool false))⟩]
def c_roster_Find_R1 : List AOper := [⟨some 8, none, .mov (.slot 0)⟩,
  ⟨some 9, none, .call .frz n_roster_May [(.slot 8)]⟩,
  ⟨some 10, none, .not (.slot 9)⟩,
  ⟨some 11, none, .mov (.slot 10)⟩,
  ⟨some 12, some (11, false), .mov (.slot 1)⟩,
  ⟨some 13, some (11, false), .bin .lss (.slot 12) (.const (.int .i64 1))⟩,
  ⟨some 14, none, .pick (.slot 11) (.const (.bool true)) (.slot 13)⟩,
  ⟨some 15, none, .mov (.slot 14)⟩,
  ⟨some 16, some (15, false), .mov (.slot 1)⟩,
  ⟨some 17, some (15, false), .bin .gtr (.slot 16) (.const (.int .i64 8))⟩,
  ⟨some 18, none, .pick (.slot 15) (.const (.bool true)) (.slot 17)⟩]
def c_roster_Find_R2 : List AOper := [⟨some 19, none, .build [.int .i64 0, .int .i64 0] []⟩,
  ⟨none, none, .store true 2 (.slot 4) (.slot 19)⟩,
  ⟨some 5, none, .mov (.const (.bool false))⟩]
def c_roster_Find_R3 : List AOper := [⟨some 21, none, .mov (.slot 0)⟩,
  ⟨some 22, none, .mov (.slot 1)⟩,
  ⟨some 23, none, .call .frz n_roster_place [(.slot 21), (.slot 22)]⟩,
  ⟨some 20, none, .mov (.slot 23)⟩,
  ⟨some 24, none, .extract 0 (.slot 20)⟩,
  ⟨some 25, none, .extract 1 (.slot 20)⟩,
  ⟨some 6, none, .mov (.slot 24)⟩,
  ⟨some 7, none, .mov (.slot 25)⟩]
def c_roster_Find_R4 : List AOper := [⟨some 26, none, .mov (.slot 7)⟩]
def c_roster_Find_R5 : List AOper := [⟨some 27, none, .mov (.slot 0)⟩,
  ⟨some 28, none, .mov (.slot 6)⟩,
  ⟨some 29, none, .idx 2 (.slot 27) (.slot 28)⟩,
  ⟨some 30, none, .load true 2 (.slot 29)⟩,
  ⟨none, none, .store true 2 (.slot 4) (.slot 30)⟩,
  ⟨some 5, none, .mov (.const (.bool true))⟩]
def c_roster_Find_R6 : List AOper := [⟨some 31, none, .build [.int .i64 0, .int .i64 0] []⟩,
  ⟨none, none, .store true 2 (.slot 4) (.slot 31)⟩,
  ⟨some 5, none, .mov (.const (.bool false))⟩]
def c_roster_Find : AFn := ⟨(.seq (.region c_roster_Find_R0 false [0, 1, 4]) (.seq (.seq (.region c_roster_Find_R1 false [0, 1, 4, 18]) (.cond (.slot 18) (.seq (.region c_roster_Find_R2 false [4, 5]) .ret) .skip)) (.seq (.seq (.region c_roster_Find_R3 false [0, 4, 6, 7]) (.seq (.region c_roster_Find_R4 false [0, 4, 6, 26]) (.cond (.slot 26) (.seq (.region c_roster_Find_R5 false [4, 5]) .ret) .skip))) (.seq (.region c_roster_Find_R6 false [4, 5]) .ret)))), [.cell 4 true 2, .slot 5]⟩
/- oriel/roster.Writers -/
def c_roster_Writers_R0 : List AOper := [⟨some 2, none, .mov (.const (.data false 1 [] true))⟩]
def c_roster_Writers_R1 : List AOper := [⟨some 6, none, .mov (.slot 0)⟩,
  ⟨some 7, none, .call .frz n_roster_May [(.slot 6)]⟩,
  ⟨some 8, none, .not (.slot 7)⟩]
def c_roster_Writers_R2 : List AOper := [⟨some 2, none, .mov (.const (.data false 1 [] true))⟩]
def c_roster_Writers_R3 : List AOper := [⟨some 3, none, .mknil 1⟩]
def c_roster_Writers_R4 : List AOper := [⟨some 9, none, .mov (.slot 0)⟩,
  ⟨some 10, none, .len false (.slot 9)⟩,
  ⟨some 11, none, .mov (.const (.int .i64 0))⟩]
def c_roster_Writers_R5 : List AOper := [⟨some 12, none, .bin .lss (.slot 11) (.slot 10)⟩]
def c_roster_Writers_R6 : List AOper := [⟨some 13, none, .idx 2 (.slot 9) (.slot 11)⟩,
  ⟨some 14, none, .load true 2 (.slot 13)⟩,
  ⟨some 5, none, .alloc [.int .i64 0, .int .i64 0]⟩,
  ⟨none, none, .store true 2 (.slot 5) (.slot 14)⟩]
def c_roster_Writers_R7 : List AOper := [⟨some 15, none, .faddr 1 (.slot 5)⟩,
  ⟨some 16, none, .load false 1 (.slot 15)⟩,
  ⟨some 17, none, .bin .eql (.slot 16) (.const (.int .i64 2))⟩]
def c_roster_Writers_R8 : List AOper := [⟨some 18, none, .mov (.slot 3)⟩,
  ⟨some 19, none, .faddr 0 (.slot 5)⟩,
  ⟨some 20, none, .load false 1 (.slot 19)⟩,
  ⟨some 21, none, .mkslice 1 1 [.int .i64 0] [(0, (.slot 20))]⟩,
  ⟨some 22, none, .append 1 8 (.slot 18) (.slot 21)⟩,
  ⟨some 3, none, .mov (.slot 22)⟩]
def c_roster_Writers_R9 : List AOper := [⟨some 23, none, .bin .add (.slot 11) (.const (.int .i64 1))⟩,
  ⟨some 11, none, .mov (.slot 23)⟩]
def c_roster_Writers_L0 : ACode := (.seq (.region c_roster_Writers_R5 false [3, 9, 10, 11, 12]) (.seq (.cond (.slot 12) .skip (.exit 0)) (.seq (.block 1 (.seq (.region c_roster_Writers_R6 false [3, 5, 9, 10, 11]) (.seq (.region c_roster_Writers_R7 false [3, 5, 9, 10, 11, 17]) (.cond (.slot 17) (.region c_roster_Writers_R8 false [3, 9, 10, 11]) .skip)))) (.region c_roster_Writers_R9 false [3, 9, 10, 11]))))
def lp_roster_Writers_0 : ACode := .loop [3, 9, 10, 11] c_roster_Writers_L0
def c_roster_Writers_R10 : List AOper := [⟨some 24, none, .mov (.slot 3)⟩,
  ⟨some 2, none, .mov (.slot 24)⟩]
def c_roster_Writers : AFn := ⟨(.seq (.region c_roster_Writers_R0 false [0]) (.seq (.seq (.region c_roster_Writers_R1 false [0, 8]) (.cond (.slot 8) (.seq (.region c_roster_Writers_R2 false [2]) .ret) .skip)) (.seq (.region c_roster_Writers_R3 false [0, 3]) (.seq (.seq (.region c_roster_Writers_R4 false [3, 9, 10, 11]) (.block 0 lp_roster_Writers_0)) (.seq (.region c_roster_Writers_R10 false [2]) .ret))))), [.slot 2]⟩
/- slices.Reverse[[]oriel/api.Member,oriel/api.Member] -/
def c_slices_Reverse_Member_R0 : List AOper := [⟨some 4, none, .mov (.slot 0)⟩,
  ⟨some 5, none, .len false (.slot 4)⟩,
  ⟨some 6, none, .bin .sub (.slot 5) (.const (.int .i64 1))⟩,
  ⟨some 2, none, .mov (.const (.int .i64 0))⟩,
  ⟨some 3, none, .mov (.slot 6)⟩]
def c_slices_Reverse_Member_R1 : List AOper := [⟨some 7, none, .mov (.slot 2)⟩,
  ⟨some 8, none, .mov (.slot 3)⟩,
  ⟨some 9, none, .bin .lss (.slot 7) (.slot 8)⟩]
def c_slices_Reverse_Member_R3 : List AOper := [⟨some 14, none, .mov (.slot 0)⟩,
  ⟨some 15, none, .mov (.slot 2)⟩,
  ⟨some 16, none, .mov (.slot 0)⟩,
  ⟨some 17, none, .mov (.slot 3)⟩,
  ⟨some 18, none, .mov (.slot 0)⟩,
  ⟨some 19, none, .mov (.slot 3)⟩,
  ⟨some 20, none, .idx 2 (.slot 18) (.slot 19)⟩,
  ⟨some 21, none, .load true 2 (.slot 20)⟩,
  ⟨some 22, none, .mov (.slot 0)⟩,
  ⟨some 23, none, .mov (.slot 2)⟩,
  ⟨some 24, none, .idx 2 (.slot 22) (.slot 23)⟩,
  ⟨some 25, none, .load true 2 (.slot 24)⟩,
  ⟨some 26, none, .idx 2 (.slot 14) (.slot 15)⟩,
  ⟨none, none, .store true 2 (.slot 26) (.slot 21)⟩,
  ⟨some 27, none, .idx 2 (.slot 16) (.slot 17)⟩,
  ⟨none, none, .store true 2 (.slot 27) (.slot 25)⟩]
def c_slices_Reverse_Member_R2 : List AOper := [⟨some 10, none, .mov (.slot 2)⟩,
  ⟨some 11, none, .bin .add (.slot 10) (.const (.int .i64 1))⟩,
  ⟨some 12, none, .mov (.slot 3)⟩,
  ⟨some 13, none, .bin .sub (.slot 12) (.const (.int .i64 1))⟩,
  ⟨some 2, none, .mov (.slot 11)⟩,
  ⟨some 3, none, .mov (.slot 13)⟩]
def c_slices_Reverse_Member_L0 : ACode := (.seq (.seq (.region c_slices_Reverse_Member_R1 false [0, 2, 3, 9]) (.cond (.slot 9) .skip (.exit 0))) (.seq (.block 1 (.region c_slices_Reverse_Member_R3 true [0, 2, 3])) (.region c_slices_Reverse_Member_R2 false [0, 2, 3])))
def lp_slices_Reverse_Member_0 : ACode := .loop [0, 2, 3] c_slices_Reverse_Member_L0
def c_slices_Reverse_Member : AFn := ⟨(.seq (.region c_slices_Reverse_Member_R0 false [0, 2, 3]) (.block 0 lp_slices_Reverse_Member_0)), []⟩
/- slices.rotateLeft[oriel/api.Member] -/
def c_slices_rotateLeft_Member_R0 : List AOper := [⟨some 4, none, .mov (.slot 0)⟩,
  ⟨some 5, none, .mov (.slot 1)⟩,
  ⟨some 6, none, .sl 2 (.slot 4) none (some (.slot 5)) none⟩,
  ⟨some 7, none, .call .frz n_slices_Reverse_Member [(.slot 6)]⟩]
def c_slices_rotateLeft_Member_R1 : List AOper := [⟨some 8, none, .mov (.slot 0)⟩,
  ⟨some 9, none, .mov (.slot 1)⟩,
  ⟨some 10, none, .sl 2 (.slot 8) (some (.slot 9)) none none⟩,
  ⟨some 11, none, .call .frz n_slices_Reverse_Member [(.slot 10)]⟩]
def c_slices_rotateLeft_Member_R2 : List AOper := [⟨some 12, none, .mov (.slot 0)⟩,
  ⟨some 13, none, .call .frz n_slices_Reverse_Member [(.slot 12)]⟩]
def c_slices_rotateLeft_Member : AFn := ⟨(.seq (.region c_slices_rotateLeft_Member_R0 false [0, 1]) (.seq (.region c_slices_rotateLeft_Member_R1 false [0]) (.region c_slices_rotateLeft_Member_R2 false []))), []⟩
/- slices.rotateRight[oriel/api.Member] -/
def c_slices_rotateRight_Member_R0 : List AOper := [⟨some 4, none, .mov (.slot 0)⟩,
  ⟨some 5, none, .mov (.slot 0)⟩,
  ⟨some 6, none, .len false (.slot 5)⟩,
  ⟨some 7, none, .mov (.slot 1)⟩,
  ⟨some 8, none, .bin .sub (.slot 6) (.slot 7)⟩,
  ⟨some 9, none, .call .frz n_slices_rotateLeft_Member [(.slot 4), (.slot 8)]⟩]
def c_slices_rotateRight_Member : AFn := ⟨(.region c_slices_rotateRight_Member_R0 false []), []⟩
/- slices.Insert[[]oriel/api.Member,oriel/api.Member] -/
def c_slices_Insert_Member_R0 : List AOper := [⟨some 6, none, .mov (.const (.data false 2 [] true))⟩]
def c_slices_Insert_Member_R1 : List AOper := [⟨some 10, none, .mov (.slot 0)⟩,
  ⟨some 11, none, .mov (.slot 1)⟩,
  ⟨some 12, none, .sl 2 (.slot 10) (some (.slot 11)) none none⟩]
def c_slices_Insert_Member_R2 : List AOper := [⟨some 13, none, .mov (.slot 2)⟩,
  ⟨some 14, none, .len false (.slot 13)⟩,
  ⟨some 7, none, .mov (.slot 14)⟩]
def c_slices_Insert_Member_R3 : List AOper := [⟨some 15, none, .mov (.slot 7)⟩,
  ⟨some 16, none, .bin .eql (.slot 15) (.const (.int .i64 0))⟩]
def c_slices_Insert_Member_R4 : List AOper := [⟨some 17, none, .mov (.slot 0)⟩,
  ⟨some 6, none, .mov (.slot 17)⟩]
def c_slices_Insert_Member_R5 : List AOper := [⟨some 18, none, .mov (.slot 0)⟩,
  ⟨some 19, none, .len false (.slot 18)⟩,
  ⟨some 8, none, .mov (.slot 19)⟩]
def c_slices_Insert_Member_R6 : List AOper := [⟨some 20, none, .mov (.slot 1)⟩,
  ⟨some 21, none, .mov (.slot 8)⟩,
  ⟨some 22, none, .bin .eql (.slot 20) (.slot 21)⟩]
def c_slices_Insert_Member_R7 : List AOper := [⟨some 23, none, .mov (.slot 0)⟩,
  ⟨some 24, none, .mov (.slot 2)⟩,
  ⟨some 25, none, .append 2 16 (.slot 23) (.slot 24)⟩,
  ⟨some 6, none, .mov (.slot 25)⟩]
def c_slices_Insert_Member_R10 : List AOper := [⟨some 41, none, .mov (.slot 9)⟩,
  ⟨some 42, none, .mov (.slot 1)⟩,
  ⟨some 43, none, .sl 2 (.slot 41) (some (.slot 42)) none none⟩,
  ⟨some 44, none, .mov (.slot 2)⟩,
  ⟨some 45, none, .copy 2 (.slot 43) (.slot 44)⟩]
def c_slices_Insert_Member_R11 : List AOper := [⟨some 46, none, .mov (.slot 9)⟩,
  ⟨some 47, none, .mov (.slot 1)⟩,
  ⟨some 48, none, .mov (.slot 7)⟩,
  ⟨some 49, none, .bin .add (.slot 47) (.slot 48)⟩,
  ⟨some 50, none, .sl 2 (.slot 46) (some (.slot 49)) none none⟩,
  ⟨some 51, none, .mov (.slot 0)⟩,
  ⟨some 52, none, .mov (.slot 1)⟩,
  ⟨some 53, none, .sl 2 (.slot 51) (some (.slot 52)) none none⟩,
  ⟨some 54, none, .copy 2 (.slot 50) (.slot 53)⟩]
def c_slices_Insert_Member_R12 : List AOper := [⟨some 55, none, .mov (.slot 9)⟩,
  ⟨some 6, none, .mov (.slot 55)⟩]
def c_slices_Insert_Member_R13 : List AOper := [⟨some 56, none, .mov (.slot 0)⟩,
  ⟨some 57, none, .mov (.slot 8)⟩,
  ⟨some 58, none, .mov (.slot 7)⟩,
  ⟨some 59, none, .bin .add (.slot 57) (.slot 58)⟩,
  ⟨some 60, none, .sl 2 (.slot 56) none (some (.slot 59)) none⟩,
  ⟨some 0, none, .mov (.slot 60)⟩]
def c_slices_Insert_Member_R14 : List AOper := [⟨some 61, none, .mov (.slot 2)⟩,
  ⟨some 62, none, .mov (.slot 0)⟩,
  ⟨some 63, none, .mov (.slot 1)⟩,
  ⟨some 64, none, .mov (.slot 7)⟩,
  ⟨some 65, none, .bin .add (.slot 63) (.slot 64)⟩,
  ⟨some 66, none, .sl 2 (.slot 62) (some (.slot 65)) none none⟩,
  ⟨some 67, none, .call .frz n_slices_overlaps_Member [(.slot 61), (.slot 66)]⟩,
  ⟨some 68, none, .not (.slot 67)⟩]
def c_slices_Insert_Member_R15 : List AOper := [⟨some 69, none, .mov (.slot 0)⟩,
  ⟨some 70, none, .mov (.slot 1)⟩,
  ⟨some 71, none, .mov (.slot 7)⟩,
  ⟨some 72, none, .bin .add (.slot 70) (.slot 71)⟩,
  ⟨some 73, none, .sl 2 (.slot 69) (some (.slot 72)) none none⟩,
  ⟨some 74, none, .mov (.slot 0)⟩,
  ⟨some 75, none, .mov (.slot 1)⟩,
  ⟨some 76, none, .sl 2 (.slot 74) (some (.slot 75)) none none⟩,
  ⟨some 77, none, .copy 2 (.slot 73) (.slot 76)⟩]
def c_slices_Insert_Member_R16 : List AOper := [⟨some 78, none, .mov (.slot 0)⟩,
  ⟨some 79, none, .mov (.slot 1)⟩,
  ⟨some 80, none, .sl 2 (.slot 78) (some (.slot 79)) none none⟩,
  ⟨some 81, none, .mov (.slot 2)⟩,
  ⟨some 82, none, .copy 2 (.slot 80) (.slot 81)⟩]
def c_slices_Insert_Member_R17 : List AOper := [⟨some 83, none, .mov (.slot 0)⟩,
  ⟨some 6, none, .mov (.slot 83)⟩]
def c_slices_Insert_Member_R18 : List AOper := [⟨some 84, none, .mov (.slot 0)⟩,
  ⟨some 85, none, .mov (.slot 8)⟩,
  ⟨some 86, none, .sl 2 (.slot 84) (some (.slot 85)) none none⟩,
  ⟨some 87, none, .mov (.slot 2)⟩,
  ⟨some 88, none, .copy 2 (.slot 86) (.slot 87)⟩]
def c_slices_Insert_Member_R19 : List AOper := [⟨some 89, none, .mov (.slot 0)⟩,
  ⟨some 90, none, .mov (.slot 1)⟩,
  ⟨some 91, none, .sl 2 (.slot 89) (some (.slot 90)) none none⟩,
  ⟨some 92, none, .mov (.slot 7)⟩,
  ⟨some 93, none, .call .frz n_slices_rotateRight_Member [(.slot 91), (.slot 92)]⟩]
def c_slices_Insert_Member_R20 : List AOper := [⟨some 94, none, .mov (.slot 0)⟩,
  ⟨some 6, none, .mov (.slot 94)⟩]
def c_slices_Insert_Member : AFn := ⟨(.seq (.region c_slices_Insert_Member_R0 false [0, 1, 2]) (.seq (.region c_slices_Insert_Member_R1 false [0, 1, 2]) (.seq (.region c_slices_Insert_Member_R2 false [0, 1, 2, 7]) (.seq (.seq (.region c_slices_Insert_Member_R3 false [0, 1, 2, 7, 16]) (.cond (.slot 16) (.seq (.region c_slices_Insert_Member_R4 false [6]) .ret) .skip)) (.seq (.region c_slices_Insert_Member_R5 false [0, 1, 2, 7, 8]) (.seq (.seq (.region c_slices_Insert_Member_R6 false [0, 1, 2, 7, 8, 22]) (.cond (.slot 22) (.seq (.region c_slices_Insert_Member_R7 false [6]) .ret) .skip)) (.seq (.seq .dead (.cond (.slot 31) (.seq .dead (.seq (.region c_slices_Insert_Member_R10 false [0, 1, 7, 9]) (.seq (.region c_slices_Insert_Member_R11 true [9]) (.seq (.region c_slices_Insert_Member_R12 false [6]) .ret)))) .skip)) (.seq (.region c_slices_Insert_Member_R13 false [0, 1, 2, 7, 8]) (.seq (.seq (.region c_slices_Insert_Member_R14 false [0, 1, 2, 7, 8, 68]) (.cond (.slot 68) (.seq (.region c_slices_Insert_Member_R15 true [0, 1, 2]) (.seq (.region c_slices_Insert_Member_R16 false [0]) (.seq (.region c_slices_Insert_Member_R17 false [6]) .ret))) .skip)) (.seq (.region c_slices_Insert_Member_R18 false [0, 1, 7]) (.seq (.region c_slices_Insert_Member_R19 false [0]) (.seq (.region c_slices_Insert_Member_R20 false [6]) .ret)))))))))))), [.slot 6]⟩
/- slices.Clone[[]oriel/api.Member,oriel/api.Member] -/
def c_slices_Clone_Member_R0 : List AOper := [⟨some 2, none, .mov (.const (.data false 2 [] true))⟩]
def c_slices_Clone_Member_R1 : List AOper := [⟨some 3, none, .mov (.slot 0)⟩,
  ⟨some 4, none, .isnil .ks false (.slot 3)⟩]
def c_slices_Clone_Member_R2 : List AOper := [⟨some 2, none, .mov (.const (.data false 2 [] true))⟩]
def c_slices_Clone_Member_R3 : List AOper := [⟨some 5, none, .mkslice 2 0 [.int .i64 0, .int .i64 0] []⟩,
  ⟨some 6, none, .mov (.slot 0)⟩,
  ⟨some 7, none, .append 2 16 (.slot 5) (.slot 6)⟩,
  ⟨some 2, none, .mov (.slot 7)⟩]
def c_slices_Clone_Member : AFn := ⟨(.seq (.region c_slices_Clone_Member_R0 false [0]) (.seq (.seq (.region c_slices_Clone_Member_R1 false [0, 4]) (.cond (.slot 4) (.seq (.region c_slices_Clone_Member_R2 false [2]) .ret) .skip)) (.seq (.region c_slices_Clone_Member_R3 false [2]) .ret))), [.slot 2]⟩
/- oriel/roster.Join -/
def c_roster_Join_R0 : List AOper := [⟨some 6, none, .mov (.const (.data false 2 [] true))⟩,
  ⟨some 7, none, .mov (.const (.int .i64 0))⟩]
def c_roster_Join_R1 : List AOper := [⟨some 10, none, .mov (.slot 0)⟩,
  ⟨some 11, none, .call .frz n_roster_May [(.slot 10)]⟩,
  ⟨some 12, none, .not (.slot 11)⟩,
  ⟨some 13, none, .mov (.slot 12)⟩,
  ⟨some 14, some (13, false), .mov (.slot 1)⟩,
  ⟨some 15, some (13, false), .bin .lss (.slot 14) (.const (.int .i64 1))⟩,
  ⟨some 16, none, .pick (.slot 13) (.const (.bool true)) (.slot 15)⟩,
  ⟨some 17, none, .mov (.slot 16)⟩,
  ⟨some 18, some (17, false), .mov (.slot 1)⟩,
  ⟨some 19, some (17, false), .bin .gtr (.slot 18) (.const (.int .i64 8))⟩,
  ⟨some 20, none, .pick (.slot 17) (.const (.bool true)) (.slot 19)⟩,
  ⟨some 21, none, .mov (.slot 20)⟩,
  ⟨some 22, some (21, false), .mov (.slot 2)⟩,
  ⟨some 23, some (21, false), .call .frz n_roster_role [(.slot 22)]⟩,
  ⟨some 24, some (21, false), .not (.slot 23)⟩,
  ⟨some 25, none, .pick (.slot 21) (.const (.bool true)) (.slot 24)⟩]
def c_roster_Join_R2 : List AOper := [⟨some 6, none, .mov (.const (.data false 2 [] true))⟩,
  ⟨some 7, none, .mov (.const (.int .i64 2))⟩]
def c_roster_Join_R3 : List AOper := [⟨some 27, none, .mov (.slot 0)⟩,
  ⟨some 28, none, .mov (.slot 1)⟩,
  ⟨some 29, none, .call .frz n_roster_place [(.slot 27), (.slot 28)]⟩,
  ⟨some 26, none, .mov (.slot 29)⟩,
  ⟨some 30, none, .extract 0 (.slot 26)⟩,
  ⟨some 31, none, .extract 1 (.slot 26)⟩,
  ⟨some 8, none, .mov (.slot 30)⟩,
  ⟨some 9, none, .mov (.slot 31)⟩]
def c_roster_Join_R4 : List AOper := [⟨some 32, none, .mov (.slot 9)⟩]
def c_roster_Join_R5 : List AOper := [⟨some 6, none, .mov (.const (.data false 2 [] true))⟩,
  ⟨some 7, none, .mov (.const (.int .i64 260))⟩]
def c_roster_Join_R6 : List AOper := [⟨some 33, none, .mov (.slot 0)⟩,
  ⟨some 34, none, .call .frz n_slices_Clone_Member [(.slot 33)]⟩,
  ⟨some 35, none, .mov (.slot 8)⟩,
  ⟨some 36, none, .mov (.slot 1)⟩,
  ⟨some 37, none, .mov (.slot 2)⟩,
  ⟨some 38, none, .build [.int .i64 0, .int .i64 0] [(0, 1, (.slot 36)), (1, 1, (.slot 37))]⟩,
  ⟨some 39, none, .mkslice 2 1 [.int .i64 0, .int .i64 0] [(0, (.slot 38))]⟩,
  ⟨some 40, none, .call .inl n_slices_Insert_Member [(.slot 34), (.slot 35), (.slot 39)]⟩,
  ⟨some 6, none, .mov (.slot 40)⟩,
  ⟨some 7, none, .mov (.const (.int .i64 0))⟩]
def c_roster_Join : AFn := ⟨(.seq (.region c_roster_Join_R0 false [0, 1, 2]) (.seq (.seq (.region c_roster_Join_R1 false [0, 1, 2, 25]) (.cond (.slot 25) (.seq (.region c_roster_Join_R2 false [6, 7]) .ret) .skip)) (.seq (.region c_roster_Join_R3 false [0, 1, 2, 8, 9]) (.seq (.seq (.region c_roster_Join_R4 false [0, 1, 2, 8, 32]) (.cond (.slot 32) (.seq (.region c_roster_Join_R5 false [6, 7]) .ret) .skip)) (.seq (.region c_roster_Join_R6 false [6, 7]) .ret))))), [.slot 6, .slot 7]⟩
/- slices.DeleteFunc[[]oriel/api.Member,oriel/api.Member] -/
def c_slices_DeleteFunc_Member_R0 : List AOper := [⟨some 4, none, .mov (.const (.data false 2 [] true))⟩]
def c_slices_DeleteFunc_Member_R1 : List AOper := [⟨some 8, none, .mov (.slot 0)⟩,
  ⟨some 9, none, .mov (.slot 1)⟩,
  ⟨some 10, none, .call .inl n_slices_IndexFunc_Member [(.slot 8), (.slot 9)]⟩,
  ⟨some 5, none, .mov (.slot 10)⟩]
def c_slices_DeleteFunc_Member_R2 : List AOper := [⟨some 11, none, .mov (.slot 5)⟩,
  ⟨some 12, none, .bin .eql (.slot 11) (.const (.int .i64 (-1)))⟩]
def c_slices_DeleteFunc_Member_R3 : List AOper := [⟨some 13, none, .mov (.slot 0)⟩,
  ⟨some 4, none, .mov (.slot 13)⟩]
def c_slices_DeleteFunc_Member_R4 : List AOper := [⟨some 14, none, .mov (.slot 5)⟩,
  ⟨some 15, none, .bin .add (.slot 14) (.const (.int .i64 1))⟩,
  ⟨some 6, none, .mov (.slot 15)⟩]
def c_slices_DeleteFunc_Member_R5 : List AOper := [⟨some 16, none, .mov (.slot 6)⟩,
  ⟨some 17, none, .mov (.slot 0)⟩,
  ⟨some 18, none, .len false (.slot 17)⟩,
  ⟨some 19, none, .bin .lss (.slot 16) (.slot 18)⟩]
def c_slices_DeleteFunc_Member_R7 : List AOper := [⟨some 22, none, .mov (.slot 0)⟩,
  ⟨some 23, none, .mov (.slot 6)⟩,
  ⟨some 24, none, .idx 2 (.slot 22) (.slot 23)⟩,
  ⟨some 25, none, .load true 2 (.slot 24)⟩,
  ⟨some 7, none, .alloc [.int .i64 0, .int .i64 0]⟩,
  ⟨none, none, .store true 2 (.slot 7) (.slot 25)⟩]
def c_slices_DeleteFunc_Member_R8 : List AOper := [⟨some 26, none, .mov (.slot 1)⟩,
  ⟨some 27, none, .load true 2 (.slot 7)⟩,
  ⟨some 28, none, .callv (.slot 26) [(.slot 27)]⟩,
  ⟨some 29, none, .not (.slot 28)⟩]
def c_slices_DeleteFunc_Member_R9 : List AOper := [⟨some 30, none, .mov (.slot 0)⟩,
  ⟨some 31, none, .mov (.slot 5)⟩,
  ⟨some 32, none, .load true 2 (.slot 7)⟩,
  ⟨some 33, none, .idx 2 (.slot 30) (.slot 31)⟩,
  ⟨none, none, .store true 2 (.slot 33) (.slot 32)⟩]
def c_slices_DeleteFunc_Member_R10 : List AOper := [⟨some 34, none, .mov (.slot 5)⟩,
  ⟨some 35, none, .bin .add (.slot 34) (.const (.int .i64 1))⟩,
  ⟨some 5, none, .mov (.slot 35)⟩]
def c_slices_DeleteFunc_Member_R6 : List AOper := [⟨some 20, none, .mov (.slot 6)⟩,
  ⟨some 21, none, .bin .add (.slot 20) (.const (.int .i64 1))⟩,
  ⟨some 6, none, .mov (.slot 21)⟩]
def c_slices_DeleteFunc_Member_L0 : ACode := (.seq (.seq (.region c_slices_DeleteFunc_Member_R5 false [0, 1, 5, 6, 19]) (.cond (.slot 19) .skip (.exit 0))) (.seq (.block 1 (.seq (.region c_slices_DeleteFunc_Member_R7 false [0, 1, 5, 6, 7]) (.seq (.region c_slices_DeleteFunc_Member_R8 false [0, 1, 5, 6, 7, 29]) (.cond (.slot 29) (.seq (.region c_slices_DeleteFunc_Member_R9 false [0, 1, 5, 6]) (.region c_slices_DeleteFunc_Member_R10 false [0, 1, 5, 6])) .skip)))) (.region c_slices_DeleteFunc_Member_R6 false [0, 1, 5, 6])))
def lp_slices_DeleteFunc_Member_0 : ACode := .loop [0, 1, 5, 6] c_slices_DeleteFunc_Member_L0
def c_slices_DeleteFunc_Member_R11 : List AOper := [⟨some 36, none, .mov (.slot 0)⟩,
  ⟨some 37, none, .mov (.slot 5)⟩,
  ⟨some 38, none, .sl 2 (.slot 36) (some (.slot 37)) none none⟩,
  ⟨none, none, .clear [.int .i64 0, .int .i64 0] (.slot 38)⟩]
def c_slices_DeleteFunc_Member_R12 : List AOper := [⟨some 39, none, .mov (.slot 0)⟩,
  ⟨some 40, none, .mov (.slot 5)⟩,
  ⟨some 41, none, .sl 2 (.slot 39) none (some (.slot 40)) none⟩,
  ⟨some 4, none, .mov (.slot 41)⟩]
def c_slices_DeleteFunc_Member : AFn := ⟨(.seq (.region c_slices_DeleteFunc_Member_R0 false [0, 1]) (.seq (.region c_slices_DeleteFunc_Member_R1 false [0, 1, 5]) (.seq (.seq (.region c_slices_DeleteFunc_Member_R2 false [0, 1, 5, 12]) (.cond (.slot 12) (.seq (.region c_slices_DeleteFunc_Member_R3 false [4]) .ret) .skip)) (.seq (.seq (.region c_slices_DeleteFunc_Member_R4 false [0, 1, 5, 6]) (.block 0 lp_slices_DeleteFunc_Member_0)) (.seq (.region c_slices_DeleteFunc_Member_R11 false [0, 5]) (.seq (.region c_slices_DeleteFunc_Member_R12 false [4]) .ret)))))), [.slot 4]⟩
/- oriel/roster.Leave'1 -/
def c_roster_Leave_1_R0 : List AOper := [⟨some 2, none, .box 2 (.slot 0)⟩,
  ⟨some 3, none, .mov (.const (.bool false))⟩]
def c_roster_Leave_1_R1 : List AOper := [⟨some 4, none, .load true 2 (.slot 2)⟩,
  ⟨some 5, none, .load true 2 (.slot 1)⟩,
  ⟨some 6, none, .eq true [.ki, .ki] false (.slot 4) (.slot 5)⟩,
  ⟨some 3, none, .mov (.slot 6)⟩]
def c_roster_Leave_1 : AFn := ⟨(.seq (.region c_roster_Leave_1_R0 false [1, 2]) (.seq (.region c_roster_Leave_1_R1 false [3]) .ret)), [.slot 3]⟩
/- oriel/roster.Leave -/
def c_roster_Leave_R0 : List AOper := [⟨some 4, none, .mov (.const (.data false 2 [] true))⟩,
  ⟨some 5, none, .mov (.const (.int .i64 0))⟩]
def c_roster_Leave_R1 : List AOper := [⟨some 8, none, .mov (.slot 0)⟩,
  ⟨some 9, none, .call .frz n_roster_May [(.slot 8)]⟩,
  ⟨some 10, none, .not (.slot 9)⟩]
def c_roster_Leave_R2 : List AOper := [⟨some 4, none, .mov (.const (.data false 2 [] true))⟩,
  ⟨some 5, none, .mov (.const (.int .i64 2))⟩]
def c_roster_Leave_R3 : List AOper := [⟨some 12, none, .mov (.slot 0)⟩,
  ⟨some 13, none, .mov (.slot 1)⟩,
  ⟨some 14, none, .call .frz n_roster_Find [(.slot 12), (.slot 13)]⟩,
  ⟨some 11, none, .mov (.slot 14)⟩,
  ⟨some 15, none, .extract 0 (.slot 11)⟩,
  ⟨some 16, none, .extract 1 (.slot 11)⟩,
  ⟨some 6, none, .alloc [.int .i64 0, .int .i64 0]⟩,
  ⟨none, none, .store true 2 (.slot 6) (.slot 15)⟩,
  ⟨some 7, none, .mov (.slot 16)⟩]
def c_roster_Leave_R4 : List AOper := [⟨some 17, none, .mov (.slot 7)⟩,
  ⟨some 18, none, .not (.slot 17)⟩]
def c_roster_Leave_R5 : List AOper := [⟨some 4, none, .mov (.const (.data false 2 [] true))⟩,
  ⟨some 5, none, .mov (.const (.int .i64 6))⟩]
def c_roster_Leave_R6 : List AOper := [⟨some 19, none, .mov (.slot 0)⟩,
  ⟨some 20, none, .call .frz n_slices_Clone_Member [(.slot 19)]⟩,
  ⟨some 21, none, .mkfn (.func n_roster_Leave_1) [] [(.slot 6)]⟩,
  ⟨some 22, none, .call .inl n_slices_DeleteFunc_Member [(.slot 20), (.slot 21)]⟩,
  ⟨some 4, none, .mov (.slot 22)⟩,
  ⟨some 5, none, .mov (.const (.int .i64 0))⟩]
def c_roster_Leave : AFn := ⟨(.seq (.region c_roster_Leave_R0 false [0, 1]) (.seq (.seq (.region c_roster_Leave_R1 false [0, 1, 10]) (.cond (.slot 10) (.seq (.region c_roster_Leave_R2 false [4, 5]) .ret) .skip)) (.seq (.region c_roster_Leave_R3 false [0, 6, 7]) (.seq (.seq (.region c_roster_Leave_R4 false [0, 6, 18]) (.cond (.slot 18) (.seq (.region c_roster_Leave_R5 false [4, 5]) .ret) .skip)) (.seq (.region c_roster_Leave_R6 false [4, 5]) .ret))))), [.slot 4, .slot 5]⟩
/- oriel/oriellaw26.known -/
def c_law26_known_R0 : List AOper := [⟨some 0, none, .mov (.const (.bool false))⟩]
def c_law26_known_R1 : List AOper := [⟨some 10, none, .build [.int .i64 0, .int .i64 0] [(0, 1, (.const (.int .i64 2))), (1, 1, (.const (.int .i64 1)))]⟩,
  ⟨some 11, none, .mkslice 2 1 [.int .i64 0, .int .i64 0] [(0, (.slot 10))]⟩,
  ⟨some 12, none, .call .frz n_roster_Join [(.slot 11), (.const (.int .i64 3)), (.const (.int .i64 2))]⟩,
  ⟨some 9, none, .mov (.slot 12)⟩,
  ⟨some 13, none, .extract 0 (.slot 9)⟩,
  ⟨some 14, none, .extract 1 (.slot 9)⟩,
  ⟨some 1, none, .mov (.slot 13)⟩,
  ⟨some 2, none, .mov (.slot 14)⟩]
def c_law26_known_R2 : List AOper := [⟨some 16, none, .mov (.slot 1)⟩,
  ⟨some 17, none, .call .frz n_roster_Join [(.slot 16), (.const (.int .i64 2)), (.const (.int .i64 2))]⟩,
  ⟨some 15, none, .mov (.slot 17)⟩,
  ⟨some 18, none, .extract 0 (.slot 15)⟩,
  ⟨some 19, none, .extract 1 (.slot 15)⟩,
  ⟨some 3, none, .mov (.slot 18)⟩,
  ⟨some 4, none, .mov (.slot 19)⟩]
def c_law26_known_R3 : List AOper := [⟨some 21, none, .mov (.slot 1)⟩,
  ⟨some 22, none, .call .frz n_roster_Leave [(.slot 21), (.const (.int .i64 4))]⟩,
  ⟨some 20, none, .mov (.slot 22)⟩,
  ⟨some 23, none, .extract 0 (.slot 20)⟩,
  ⟨some 24, none, .extract 1 (.slot 20)⟩,
  ⟨some 5, none, .mov (.slot 23)⟩,
  ⟨some 6, none, .mov (.slot 24)⟩]
def c_law26_known_R4 : List AOper := [⟨some 26, none, .mov (.slot 1)⟩,
  ⟨some 27, none, .call .frz n_roster_Find [(.slot 26), (.const (.int .i64 3))]⟩,
  ⟨some 25, none, .mov (.slot 27)⟩,
  ⟨some 28, none, .extract 0 (.slot 25)⟩,
  ⟨some 29, none, .extract 1 (.slot 25)⟩,
  ⟨some 7, none, .alloc [.int .i64 0, .int .i64 0]⟩,
  ⟨none, none, .store true 2 (.slot 7) (.slot 28)⟩,
  ⟨some 8, none, .mov (.slot 29)⟩]
def c_law26_known_R5 : List AOper := [⟨some 30, none, .mov (.slot 2)⟩,
  ⟨some 31, none, .bin .eql (.slot 30) (.const (.int .i64 0))⟩,
  ⟨some 32, none, .mov (.slot 31)⟩,
  ⟨some 33, some (32, true), .mov (.slot 4)⟩,
  ⟨some 34, some (32, true), .bin .eql (.slot 33) (.const (.int .i64 260))⟩,
  ⟨some 35, none, .pick (.slot 32) (.slot 34) (.const (.bool false))⟩,
  ⟨some 36, none, .mov (.slot 35)⟩,
  ⟨some 37, some (36, true), .mov (.slot 6)⟩,
  ⟨some 38, some (36, true), .bin .eql (.slot 37) (.const (.int .i64 6))⟩,
  ⟨some 39, none, .pick (.slot 36) (.slot 38) (.const (.bool false))⟩,
  ⟨some 40, none, .mov (.slot 39)⟩,
  ⟨some 41, some (40, true), .mov (.slot 8)⟩,
  ⟨some 42, none, .pick (.slot 40) (.slot 41) (.const (.bool false))⟩,
  ⟨some 43, none, .mov (.slot 42)⟩,
  ⟨some 44, some (43, true), .load true 2 (.slot 7)⟩,
  ⟨some 45, some (43, true), .build [.int .i64 0, .int .i64 0] [(0, 1, (.const (.int .i64 3))), (1, 1, (.const (.int .i64 2)))]⟩,
  ⟨some 46, some (43, true), .eq true [.ki, .ki] false (.slot 44) (.slot 45)⟩,
  ⟨some 47, none, .pick (.slot 43) (.slot 46) (.const (.bool false))⟩,
  ⟨some 48, none, .mov (.slot 47)⟩,
  ⟨some 49, some (48, true), .mov (.slot 1)⟩,
  ⟨some 50, some (48, true), .len false (.slot 49)⟩,
  ⟨some 51, some (48, true), .bin .eql (.slot 50) (.const (.int .i64 2))⟩,
  ⟨some 52, none, .pick (.slot 48) (.slot 51) (.const (.bool false))⟩,
  ⟨some 53, none, .mov (.slot 52)⟩,
  ⟨some 54, some (53, true), .mov (.slot 1)⟩,
  ⟨some 55, some (53, true), .call .frz n_roster_Writers [(.slot 54)]⟩,
  ⟨some 56, some (53, true), .len false (.slot 55)⟩,
  ⟨some 57, some (53, true), .bin .eql (.slot 56) (.const (.int .i64 1))⟩,
  ⟨some 58, none, .pick (.slot 53) (.slot 57) (.const (.bool false))⟩,
  ⟨some 0, none, .mov (.slot 58)⟩]
def c_law26_known : AFn := ⟨(.seq (.region c_law26_known_R0 false []) (.seq (.region c_law26_known_R1 false [1, 2]) (.seq (.region c_law26_known_R2 false [1, 2, 4]) (.seq (.region c_law26_known_R3 false [1, 2, 4, 6]) (.seq (.region c_law26_known_R4 false [1, 2, 4, 6, 7, 8]) (.seq (.region c_law26_known_R5 false [0]) .ret)))))), [.slot 0]⟩
/- oriel/orielref20.List -/
def c_ref20_List_R0 : List AOper := [⟨some 4, none, .mov (.const (.bool false))⟩]
def c_ref20_List_R1 : List AOper := [⟨some 7, none, .mov (.slot 1)⟩,
  ⟨some 8, none, .bin .eql (.slot 7) (.const (.int .i64 0))⟩,
  ⟨some 5, none, .mov (.slot 8)⟩]
def c_ref20_List_R2 : List AOper := [⟨some 6, none, .mov (.const (.int .i64 0))⟩]
def c_ref20_List_R3 : List AOper := [⟨some 9, none, .mov (.slot 6)⟩,
  ⟨some 10, none, .mov (.slot 0)⟩,
  ⟨some 11, none, .len false (.slot 10)⟩,
  ⟨some 12, none, .bin .lss (.slot 9) (.slot 11)⟩]
def c_ref20_List_R5 : List AOper := [⟨some 15, none, .mov (.slot 0)⟩,
  ⟨some 16, none, .mov (.slot 6)⟩,
  ⟨some 17, none, .idx 2 (.slot 15) (.slot 16)⟩,
  ⟨some 18, none, .faddr 0 (.slot 17)⟩,
  ⟨some 19, none, .load false 1 (.slot 18)⟩,
  ⟨some 20, none, .bin .lss (.slot 19) (.const (.int .i64 1))⟩,
  ⟨some 21, none, .mov (.slot 20)⟩,
  ⟨some 22, some (21, false), .mov (.slot 0)⟩,
  ⟨some 23, some (21, false), .mov (.slot 6)⟩,
  ⟨some 24, some (21, false), .idx 2 (.slot 22) (.slot 23)⟩,
  ⟨some 25, some (21, false), .faddr 0 (.slot 24)⟩,
  ⟨some 26, some (21, false), .load false 1 (.slot 25)⟩,
  ⟨some 27, some (21, false), .bin .gtr (.slot 26) (.const (.int .i64 8))⟩,
  ⟨some 28, none, .pick (.slot 21) (.const (.bool true)) (.slot 27)⟩,
  ⟨some 29, none, .mov (.slot 28)⟩,
  ⟨some 30, some (29, false), .mov (.slot 0)⟩,
  ⟨some 31, some (29, false), .mov (.slot 6)⟩,
  ⟨some 32, some (29, false), .idx 2 (.slot 30) (.slot 31)⟩,
  ⟨some 33, some (29, false), .faddr 1 (.slot 32)⟩,
  ⟨some 34, some (29, false), .load false 1 (.slot 33)⟩,
  ⟨some 35, some (29, false), .bin .lss (.slot 34) (.const (.int .i64 1))⟩,
  ⟨some 36, none, .pick (.slot 29) (.const (.bool true)) (.slot 35)⟩,
  ⟨some 37, none, .mov (.slot 36)⟩,
  ⟨some 38, some (37, false), .mov (.slot 0)⟩,
  ⟨some 39, some (37, false), .mov (.slot 6)⟩,
  ⟨some 40, some (37, false), .idx 2 (.slot 38) (.slot 39)⟩,
  ⟨some 41, some (37, false), .faddr 1 (.slot 40)⟩,
  ⟨some 42, some (37, false), .load false 1 (.slot 41)⟩,
  ⟨some 43, some (37, false), .bin .gtr (.slot 42) (.const (.int .i64 2))⟩,
  ⟨some 44, none, .pick (.slot 37) (.const (.bool true)) (.slot 43)⟩,
  ⟨some 45, none, .mov (.slot 44)⟩,
  ⟨some 46, some (45, false), .mov (.slot 6)⟩,
  ⟨some 47, some (45, false), .bin .gtr (.slot 46) (.const (.int .i64 0))⟩,
  ⟨some 48, some (45, false), .mov (.slot 47)⟩,
  ⟨some 49, some (48, true), .mov (.slot 0)⟩,
  ⟨some 50, some (48, true), .mov (.slot 6)⟩,
  ⟨some 51, some (48, true), .idx 2 (.slot 49) (.slot 50)⟩,
  ⟨some 52, some (48, true), .faddr 0 (.slot 51)⟩,
  ⟨some 53, some (48, true), .load false 1 (.slot 52)⟩,
  ⟨some 54, some (48, true), .mov (.slot 0)⟩,
  ⟨some 55, some (48, true), .mov (.slot 6)⟩,
  ⟨some 56, some (48, true), .bin .sub (.slot 55) (.const (.int .i64 1))⟩,
  ⟨some 57, some (48, true), .idx 2 (.slot 54) (.slot 56)⟩,
  ⟨some 58, some (48, true), .faddr 0 (.slot 57)⟩,
  ⟨some 59, some (48, true), .load false 1 (.slot 58)⟩,
  ⟨some 60, some (48, true), .bin .leq (.slot 53) (.slot 59)⟩,
  ⟨some 61, some (45, false), .pick (.slot 48) (.slot 60) (.const (.bool false))⟩,
  ⟨some 62, none, .pick (.slot 45) (.const (.bool true)) (.slot 61)⟩]
def c_ref20_List_R6 : List AOper := [⟨some 4, none, .mov (.const (.bool false))⟩]
def c_ref20_List_R7 : List AOper := [⟨some 63, none, .mov (.slot 0)⟩,
  ⟨some 64, none, .mov (.slot 6)⟩,
  ⟨some 65, none, .idx 2 (.slot 63) (.slot 64)⟩,
  ⟨some 66, none, .faddr 0 (.slot 65)⟩,
  ⟨some 67, none, .load false 1 (.slot 66)⟩,
  ⟨some 68, none, .mov (.slot 1)⟩,
  ⟨some 69, none, .bin .eql (.slot 67) (.slot 68)⟩,
  ⟨some 70, none, .mov (.slot 69)⟩,
  ⟨some 71, some (70, true), .mov (.slot 0)⟩,
  ⟨some 72, some (70, true), .mov (.slot 6)⟩,
  ⟨some 73, some (70, true), .idx 2 (.slot 71) (.slot 72)⟩,
  ⟨some 74, some (70, true), .faddr 1 (.slot 73)⟩,
  ⟨some 75, some (70, true), .load false 1 (.slot 74)⟩,
  ⟨some 76, some (70, true), .bin .eql (.slot 75) (.const (.int .i64 2))⟩,
  ⟨some 77, none, .pick (.slot 70) (.slot 76) (.const (.bool false))⟩]
def c_ref20_List_R8 : List AOper := [⟨some 5, none, .mov (.const (.bool true))⟩]
def c_ref20_List_R4 : List AOper := [⟨some 13, none, .mov (.slot 6)⟩,
  ⟨some 14, none, .bin .add (.slot 13) (.const (.int .i64 1))⟩,
  ⟨some 6, none, .mov (.slot 14)⟩]
def c_ref20_List_L0 : ACode := (.seq (.seq (.region c_ref20_List_R3 false [0, 1, 5, 6, 12]) (.cond (.slot 12) .skip (.exit 0))) (.seq (.block 1 (.seq (.seq (.region c_ref20_List_R5 true [0, 1, 5, 6, 62]) (.cond (.slot 62) (.seq (.region c_ref20_List_R6 false [4]) .ret) .skip)) (.seq (.region c_ref20_List_R7 false [0, 1, 5, 6, 77]) (.cond (.slot 77) (.region c_ref20_List_R8 false [0, 1, 5, 6]) .skip)))) (.region c_ref20_List_R4 false [0, 1, 5, 6])))
def lp_ref20_List_0 : ACode := .loop [0, 1, 5, 6] c_ref20_List_L0
def c_ref20_List_R9 : List AOper := [⟨some 78, none, .mov (.slot 5)⟩,
  ⟨some 4, none, .mov (.slot 78)⟩]
def c_ref20_List : AFn := ⟨(.seq (.region c_ref20_List_R0 false [0, 1]) (.seq (.region c_ref20_List_R1 false [0, 1, 5]) (.seq (.seq (.region c_ref20_List_R2 false [0, 1, 5, 6]) (.block 0 lp_ref20_List_0)) (.seq (.region c_ref20_List_R9 false [4]) .ret)))), [.slot 4]⟩
/- oriel/orielref26.May -/
def c_ref26_May_R0 : List AOper := [⟨some 2, none, .mov (.const (.bool false))⟩]
def c_ref26_May_R1 : List AOper := [⟨some 3, none, .mov (.slot 0)⟩,
  ⟨some 4, none, .call .frz n_ref20_List [(.slot 3), (.const (.int .i64 0))]⟩,
  ⟨some 2, none, .mov (.slot 4)⟩]
def c_ref26_May : AFn := ⟨(.seq (.region c_ref26_May_R0 false [0]) (.seq (.region c_ref26_May_R1 false [2]) .ret)), [.slot 2]⟩
/- oriel/orielref26.Role -/
def c_ref26_Role_R0 : List AOper := [⟨some 4, none, .mov (.const (.int .i64 0))⟩]
def c_ref26_Role_R1 : List AOper := [⟨some 5, none, .mov (.const (.int .i64 0))⟩]
def c_ref26_Role_R2 : List AOper := [⟨some 6, none, .mov (.slot 5)⟩,
  ⟨some 7, none, .mov (.slot 0)⟩,
  ⟨some 8, none, .len false (.slot 7)⟩,
  ⟨some 9, none, .bin .lss (.slot 6) (.slot 8)⟩]
def c_ref26_Role_R4 : List AOper := [⟨some 12, none, .mov (.slot 0)⟩,
  ⟨some 13, none, .mov (.slot 5)⟩,
  ⟨some 14, none, .idx 2 (.slot 12) (.slot 13)⟩,
  ⟨some 15, none, .faddr 0 (.slot 14)⟩,
  ⟨some 16, none, .load false 1 (.slot 15)⟩,
  ⟨some 17, none, .mov (.slot 1)⟩,
  ⟨some 18, none, .bin .eql (.slot 16) (.slot 17)⟩]
def c_ref26_Role_R5 : List AOper := [⟨some 19, none, .mov (.slot 0)⟩,
  ⟨some 20, none, .mov (.slot 5)⟩,
  ⟨some 21, none, .idx 2 (.slot 19) (.slot 20)⟩,
  ⟨some 22, none, .faddr 1 (.slot 21)⟩,
  ⟨some 23, none, .load false 1 (.slot 22)⟩,
  ⟨some 4, none, .mov (.slot 23)⟩]
def c_ref26_Role_R3 : List AOper := [⟨some 10, none, .mov (.slot 5)⟩,
  ⟨some 11, none, .bin .add (.slot 10) (.const (.int .i64 1))⟩,
  ⟨some 5, none, .mov (.slot 11)⟩]
def c_ref26_Role_L0 : ACode := (.seq (.seq (.region c_ref26_Role_R2 false [0, 1, 5, 9]) (.cond (.slot 9) .skip (.exit 0))) (.seq (.block 1 (.seq (.region c_ref26_Role_R4 false [0, 1, 5, 18]) (.cond (.slot 18) (.seq (.region c_ref26_Role_R5 false [4]) .ret) .skip))) (.region c_ref26_Role_R3 false [0, 1, 5])))
def lp_ref26_Role_0 : ACode := .loop [0, 1, 5] c_ref26_Role_L0
def c_ref26_Role_R6 : List AOper := [⟨some 4, none, .mov (.const (.int .i64 0))⟩]
def c_ref26_Role : AFn := ⟨(.seq (.region c_ref26_Role_R0 false [0, 1]) (.seq (.seq (.region c_ref26_Role_R1 false [0, 1, 5]) (.block 0 lp_ref26_Role_0)) (.seq (.region c_ref26_Role_R6 false [4]) .ret))), [.slot 4]⟩
/- oriel/oriellaw26.RosterAsks -/
def c_law26_RosterAsks_R0 : List AOper := [⟨some 4, none, .mov (.const (.bool false))⟩]
def c_law26_RosterAsks_R1 : List AOper := [⟨some 12, none, .call .frz n_law26_known []⟩,
  ⟨some 13, none, .not (.slot 12)⟩]
def c_law26_RosterAsks_R2 : List AOper := [⟨some 4, none, .mov (.const (.bool false))⟩]
def c_law26_RosterAsks_R3 : List AOper := [⟨some 14, none, .mov (.slot 0)⟩,
  ⟨some 15, none, .len false (.slot 14)⟩,
  ⟨some 16, none, .bin .gtr (.slot 15) (.const (.int .i64 100))⟩]
def c_law26_RosterAsks_R4 : List AOper := [⟨some 4, none, .mov (.const (.bool true))⟩]
def c_law26_RosterAsks_R5 : List AOper := [⟨some 17, none, .mov (.slot 0)⟩,
  ⟨some 18, none, .call .frz n_ref26_May [(.slot 17)]⟩,
  ⟨some 5, none, .mov (.slot 18)⟩]
def c_law26_RosterAsks_R6 : List AOper := [⟨some 20, none, .mov (.slot 0)⟩,
  ⟨some 21, none, .mov (.slot 1)⟩,
  ⟨some 22, none, .call .frz n_roster_Find [(.slot 20), (.slot 21)]⟩,
  ⟨some 19, none, .mov (.slot 22)⟩,
  ⟨some 23, none, .extract 0 (.slot 19)⟩,
  ⟨some 24, none, .extract 1 (.slot 19)⟩,
  ⟨some 6, none, .alloc [.int .i64 0, .int .i64 0]⟩,
  ⟨none, none, .store true 2 (.slot 6) (.slot 23)⟩,
  ⟨some 7, none, .mov (.slot 24)⟩]
def c_law26_RosterAsks_R7 : List AOper := [⟨some 8, none, .mov (.const (.int .i64 0))⟩]
def c_law26_RosterAsks_R8 : List AOper := [⟨some 25, none, .mov (.slot 5)⟩]
def c_law26_RosterAsks_R9 : List AOper := [⟨some 26, none, .mov (.slot 0)⟩,
  ⟨some 27, none, .mov (.slot 1)⟩,
  ⟨some 28, none, .call .frz n_ref26_Role [(.slot 26), (.slot 27)]⟩,
  ⟨some 8, none, .mov (.slot 28)⟩]
def c_law26_RosterAsks_R10 : List AOper := [⟨some 29, none, .mov (.slot 0)⟩,
  ⟨some 30, none, .call .frz n_roster_May [(.slot 29)]⟩,
  ⟨some 31, none, .mov (.slot 5)⟩,
  ⟨some 32, none, .eq false [.kb] true (.slot 30) (.slot 31)⟩,
  ⟨some 33, none, .mov (.slot 32)⟩,
  ⟨some 34, some (33, false), .mov (.slot 7)⟩,
  ⟨some 35, some (33, false), .mov (.slot 8)⟩,
  ⟨some 36, some (33, false), .bin .neq (.slot 35) (.const (.int .i64 0))⟩,
  ⟨some 37, some (33, false), .eq false [.kb] true (.slot 34) (.slot 36)⟩,
  ⟨some 38, none, .pick (.slot 33) (.const (.bool true)) (.slot 37)⟩,
  ⟨some 39, none, .mov (.slot 38)⟩,
  ⟨some 40, some (39, false), .mov (.slot 7)⟩,
  ⟨some 41, some (39, false), .mov (.slot 40)⟩,
  ⟨some 42, some (41, true), .load true 2 (.slot 6)⟩,
  ⟨some 43, some (41, true), .mov (.slot 1)⟩,
  ⟨some 44, some (41, true), .mov (.slot 8)⟩,
  ⟨some 45, some (41, true), .build [.int .i64 0, .int .i64 0] [(0, 1, (.slot 43)), (1, 1, (.slot 44))]⟩,
  ⟨some 46, some (41, true), .eq true [.ki, .ki] true (.slot 42) (.slot 45)⟩,
  ⟨some 47, some (39, false), .pick (.slot 41) (.slot 46) (.const (.bool false))⟩,
  ⟨some 48, none, .pick (.slot 39) (.const (.bool true)) (.slot 47)⟩,
  ⟨some 49, none, .mov (.slot 48)⟩,
  ⟨some 50, some (49, false), .mov (.slot 7)⟩,
  ⟨some 51, some (49, false), .not (.slot 50)⟩,
  ⟨some 52, some (49, false), .mov (.slot 51)⟩,
  ⟨some 53, some (52, true), .load true 2 (.slot 6)⟩,
  ⟨some 54, some (52, true), .build [.int .i64 0, .int .i64 0] []⟩,
  ⟨some 55, some (52, true), .eq true [.ki, .ki] true (.slot 53) (.slot 54)⟩,
  ⟨some 56, some (49, false), .pick (.slot 52) (.slot 55) (.const (.bool false))⟩,
  ⟨some 57, none, .pick (.slot 49) (.const (.bool true)) (.slot 56)⟩]
def c_law26_RosterAsks_R11 : List AOper := [⟨some 4, none, .mov (.const (.bool false))⟩]
def c_law26_RosterAsks_R12 : List AOper := [⟨some 58, none, .mov (.slot 0)⟩,
  ⟨some 59, none, .call .frz n_roster_Writers [(.slot 58)]⟩,
  ⟨some 9, none, .mov (.slot 59)⟩]
def c_law26_RosterAsks_R13 : List AOper := [⟨some 10, none, .mov (.const (.int .i64 0))⟩]
def c_law26_RosterAsks_R14 : List AOper := [⟨some 11, none, .mov (.const (.int .i64 1))⟩]
def c_law26_RosterAsks_R15 : List AOper := [⟨some 60, none, .mov (.slot 5)⟩,
  ⟨some 61, none, .mov (.slot 60)⟩,
  ⟨some 62, some (61, true), .mov (.slot 11)⟩,
  ⟨some 63, some (61, true), .bin .leq (.slot 62) (.const (.int .i64 8))⟩,
  ⟨some 64, none, .pick (.slot 61) (.slot 63) (.const (.bool false))⟩]
def c_law26_RosterAsks_R17 : List AOper := [⟨some 67, none, .mov (.slot 0)⟩,
  ⟨some 68, none, .mov (.slot 11)⟩,
  ⟨some 69, none, .call .frz n_ref26_Role [(.slot 67), (.slot 68)]⟩,
  ⟨some 70, none, .bin .eql (.slot 69) (.const (.int .i64 2))⟩]
def c_law26_RosterAsks_R18 : List AOper := [⟨some 71, none, .mov (.slot 10)⟩,
  ⟨some 72, none, .mov (.slot 9)⟩,
  ⟨some 73, none, .len false (.slot 72)⟩,
  ⟨some 74, none, .bin .geq (.slot 71) (.slot 73)⟩,
  ⟨some 75, none, .mov (.slot 74)⟩,
  ⟨some 76, some (75, false), .mov (.slot 9)⟩,
  ⟨some 77, some (75, false), .mov (.slot 10)⟩,
  ⟨some 78, some (75, false), .idx 1 (.slot 76) (.slot 77)⟩,
  ⟨some 79, some (75, false), .load false 1 (.slot 78)⟩,
  ⟨some 80, some (75, false), .mov (.slot 11)⟩,
  ⟨some 81, some (75, false), .bin .neq (.slot 79) (.slot 80)⟩,
  ⟨some 82, none, .pick (.slot 75) (.const (.bool true)) (.slot 81)⟩]
def c_law26_RosterAsks_R19 : List AOper := [⟨some 4, none, .mov (.const (.bool false))⟩]
def c_law26_RosterAsks_R20 : List AOper := [⟨some 83, none, .mov (.slot 10)⟩,
  ⟨some 84, none, .bin .add (.slot 83) (.const (.int .i64 1))⟩,
  ⟨some 10, none, .mov (.slot 84)⟩]
def c_law26_RosterAsks_R16 : List AOper := [⟨some 65, none, .mov (.slot 11)⟩,
  ⟨some 66, none, .bin .add (.slot 65) (.const (.int .i64 1))⟩,
  ⟨some 11, none, .mov (.slot 66)⟩]
def c_law26_RosterAsks_L0 : ACode := (.seq (.seq (.region c_law26_RosterAsks_R15 false [0, 5, 9, 10, 11, 64]) (.cond (.slot 64) .skip (.exit 0))) (.seq (.block 1 (.seq (.region c_law26_RosterAsks_R17 false [0, 5, 9, 10, 11, 70]) (.cond (.slot 70) (.seq (.seq (.region c_law26_RosterAsks_R18 false [0, 5, 9, 10, 11, 82]) (.cond (.slot 82) (.seq (.region c_law26_RosterAsks_R19 false [4]) .ret) .skip)) (.region c_law26_RosterAsks_R20 false [0, 5, 9, 10, 11])) .skip))) (.region c_law26_RosterAsks_R16 false [0, 5, 9, 10, 11])))
def lp_law26_RosterAsks_0 : ACode := .loop [0, 5, 9, 10, 11] c_law26_RosterAsks_L0
def c_law26_RosterAsks_R21 : List AOper := [⟨some 85, none, .mov (.slot 10)⟩,
  ⟨some 86, none, .mov (.slot 9)⟩,
  ⟨some 87, none, .len false (.slot 86)⟩,
  ⟨some 88, none, .bin .eql (.slot 85) (.slot 87)⟩,
  ⟨some 4, none, .mov (.slot 88)⟩]
def c_law26_RosterAsks : AFn := ⟨(.seq (.region c_law26_RosterAsks_R0 false [0, 1]) (.seq (.seq (.region c_law26_RosterAsks_R1 false [0, 1, 13]) (.cond (.slot 13) (.seq (.region c_law26_RosterAsks_R2 false [4]) .ret) .skip)) (.seq (.seq (.region c_law26_RosterAsks_R3 false [0, 1, 16]) (.cond (.slot 16) (.seq (.region c_law26_RosterAsks_R4 false [4]) .ret) .skip)) (.seq (.region c_law26_RosterAsks_R5 false [0, 1, 5]) (.seq (.region c_law26_RosterAsks_R6 false [0, 1, 5, 6, 7]) (.seq (.region c_law26_RosterAsks_R7 false [0, 1, 5, 6, 7, 8]) (.seq (.seq (.region c_law26_RosterAsks_R8 false [0, 1, 5, 6, 7, 8, 25]) (.cond (.slot 25) (.region c_law26_RosterAsks_R9 false [0, 1, 5, 6, 7, 8]) .skip)) (.seq (.seq (.region c_law26_RosterAsks_R10 false [0, 5, 57]) (.cond (.slot 57) (.seq (.region c_law26_RosterAsks_R11 false [4]) .ret) .skip)) (.seq (.region c_law26_RosterAsks_R12 false [0, 5, 9]) (.seq (.region c_law26_RosterAsks_R13 false [0, 5, 9, 10]) (.seq (.seq (.region c_law26_RosterAsks_R14 false [0, 5, 9, 10, 11]) (.block 0 lp_law26_RosterAsks_0)) (.seq (.region c_law26_RosterAsks_R21 false [4]) .ret)))))))))))), [.slot 4]⟩
end Go.Proofs.Ytfnonledcniojaa
