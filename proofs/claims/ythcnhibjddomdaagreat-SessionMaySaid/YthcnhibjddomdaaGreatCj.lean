/- The seat's code is the program's. Conditions: none. -/
import Derived.Test.YthcnhibjddomdaaGreatM3
import Derived.Test.YthcnhibjddomdaaGreatCd
import Derived.Test.YthcnhibjddomdaaGreatRows
set_option linter.unusedVariables false
set_option linter.unusedSimpArgs false
set_option linter.unusedSectionVars false
namespace Go.Proofs.YthcnhibjddomdaaGreat
open Go
theorem chk_slices_IndexFunc_Member : chkFn Tryz.prog 109 c_slices_IndexFunc_Member = true := by kernel_rfl
theorem chk_slices_ContainsFunc_Member : chkFn Tryz.prog 93 c_slices_ContainsFunc_Member = true := by kernel_rfl
theorem chk_roster_role : chkFn Tryz.prog 66 c_roster_role = true := by kernel_rfl
theorem chk_roster_May_1 : chkFn Tryz.prog 94 c_roster_May_1 = true := by kernel_rfl
theorem chk_roster_May : chkFn Tryz.prog 52 c_roster_May = true := by kernel_rfl
theorem chk_slices_BinarySearchFunc_Member_int : chkFn Tryz.prog 100 c_slices_BinarySearchFunc_Member_int = true := by kernel_rfl
theorem chk_roster_place_1 : chkFn Tryz.prog 101 c_roster_place_1 = true := by kernel_rfl
theorem chk_roster_place : chkFn Tryz.prog 67 c_roster_place = true := by kernel_rfl
theorem chk_roster_Find : chkFn Tryz.prog 30 c_roster_Find = true := by kernel_rfl
theorem chk_token_number : chkFn Tryz.prog 95 c_token_number = true := by kernel_rfl
theorem chk_token_May : chkFn Tryz.prog 53 c_token_May = true := by kernel_rfl
theorem chk_merge_piece : chkFn Tryz.prog 96 c_merge_piece = true := by kernel_rfl
theorem chk_merge_May : chkFn Tryz.prog 54 c_merge_May = true := by kernel_rfl
theorem chk_size_side : chkFn Tryz.prog 115 c_size_side = true := by kernel_rfl
theorem chk_size_window : chkFn Tryz.prog 97 c_size_window = true := by kernel_rfl
theorem chk_size_May : chkFn Tryz.prog 55 c_size_May = true := by kernel_rfl
theorem chk_session_writes : chkFn Tryz.prog 56 c_session_writes = true := by kernel_rfl
theorem chk_slices_IndexFunc_int : chkFn Tryz.prog 98 c_slices_IndexFunc_int = true := by kernel_rfl
theorem chk_slices_ContainsFunc_int : chkFn Tryz.prog 57 c_slices_ContainsFunc_int = true := by kernel_rfl
theorem chk_session_May_1 : chkFn Tryz.prog 58 c_session_May_1 = true := by kernel_rfl
theorem chk_slices_IndexFunc_Typed : chkFn Tryz.prog 99 c_slices_IndexFunc_Typed = true := by kernel_rfl
theorem chk_slices_ContainsFunc_Typed : chkFn Tryz.prog 59 c_slices_ContainsFunc_Typed = true := by kernel_rfl
theorem chk_session_May_2 : chkFn Tryz.prog 60 c_session_May_2 = true := by kernel_rfl
theorem chk_session_May : chkFn Tryz.prog 22 c_session_May = true := by kernel_rfl
theorem chk_slices_Insert_Member : chkFn Tryz.prog 68 c_slices_Insert_Member = true := by kernel_rfl
theorem chk_slices_Clone_Member : chkFn Tryz.prog 69 c_slices_Clone_Member = true := by kernel_rfl
theorem chk_roster_Join : chkFn Tryz.prog 26 c_roster_Join = true := by kernel_rfl
theorem chk_bytes_Clone : chkFn Tryz.prog 121 c_bytes_Clone = true := by kernel_rfl
theorem chk_merge_copied : chkFn Tryz.prog 84 c_merge_copied = true := by kernel_rfl
theorem chk_merge_Pop : chkFn Tryz.prog 33 c_merge_Pop = true := by kernel_rfl
theorem chk_slices_Clone_int : chkFn Tryz.prog 83 c_slices_Clone_int = true := by kernel_rfl
theorem chk_session_copied : chkFn Tryz.prog 32 c_session_copied = true := by kernel_rfl
theorem chk_slices_DeleteFunc_Typed : chkFn Tryz.prog 104 c_slices_DeleteFunc_Typed = true := by kernel_rfl
theorem chk_merge_Drop_1 : chkFn Tryz.prog 105 c_merge_Drop_1 = true := by kernel_rfl
theorem chk_merge_Drop : chkFn Tryz.prog 70 c_merge_Drop = true := by kernel_rfl
theorem chk_token_arbiter_on : chkFn Tryz.prog 132 c_token_arbiter_on = true := by kernel_rfl
theorem chk_token_change : chkFn Tryz.prog 117 c_token_change = true := by kernel_rfl
theorem chk_slices_Index_int : chkFn Tryz.prog 131 c_slices_Index_int = true := by kernel_rfl
theorem chk_slices_Contains_int : chkFn Tryz.prog 125 c_slices_Contains_int = true := by kernel_rfl
theorem chk_token_Keep_1 : chkFn Tryz.prog 124 c_token_Keep_1 = true := by kernel_rfl
theorem chk_slices_DeleteFunc_int : chkFn Tryz.prog 127 c_slices_DeleteFunc_int = true := by kernel_rfl
theorem chk_token_Keep_2 : chkFn Tryz.prog 126 c_token_Keep_2 = true := by kernel_rfl
theorem chk_token_Keep : chkFn Tryz.prog 106 c_token_Keep = true := by kernel_rfl
theorem chk_roster_Writers : chkFn Tryz.prog 107 c_roster_Writers = true := by kernel_rfl
theorem chk_size_member : chkFn Tryz.prog 114 c_size_member = true := by kernel_rfl
theorem chk_size_Least : chkFn Tryz.prog 108 c_size_Least = true := by kernel_rfl
theorem chk_session_settled : chkFn Tryz.prog 71 c_session_settled = true := by kernel_rfl
theorem chk_session_with : chkFn Tryz.prog 27 c_session_with = true := by kernel_rfl
theorem chk_session_Join : chkFn Tryz.prog 8 c_session_Join = true := by kernel_rfl
theorem chk_slices_DeleteFunc_Member : chkFn Tryz.prog 72 c_slices_DeleteFunc_Member = true := by kernel_rfl
theorem chk_roster_Leave_1 : chkFn Tryz.prog 73 c_roster_Leave_1 = true := by kernel_rfl
theorem chk_roster_Leave : chkFn Tryz.prog 28 c_roster_Leave = true := by kernel_rfl
theorem chk_session_Leave : chkFn Tryz.prog 9 c_session_Leave = true := by kernel_rfl
theorem chk_roster_Change : chkFn Tryz.prog 29 c_roster_Change = true := by kernel_rfl
theorem chk_session_Change : chkFn Tryz.prog 10 c_session_Change = true := by kernel_rfl
theorem chk_slices_IndexFunc_Deed : chkFn Tryz.prog 128 c_slices_IndexFunc_Deed = true := by kernel_rfl
theorem chk_slices_ContainsFunc_Deed : chkFn Tryz.prog 110 c_slices_ContainsFunc_Deed = true := by kernel_rfl
theorem chk_input_may_1 : chkFn Tryz.prog 129 c_input_may_1 = true := by kernel_rfl
theorem chk_input_may : chkFn Tryz.prog 112 c_input_may = true := by kernel_rfl
theorem chk_input_May_1 : chkFn Tryz.prog 111 c_input_May_1 = true := by kernel_rfl
theorem chk_input_May : chkFn Tryz.prog 74 c_input_May = true := by kernel_rfl
theorem chk_merge_Push : chkFn Tryz.prog 76 c_merge_Push = true := by kernel_rfl
theorem chk_session_does_1 : chkFn Tryz.prog 75 c_session_does_1 = true := by kernel_rfl
theorem chk_size_Set : chkFn Tryz.prog 78 c_size_Set = true := by kernel_rfl
theorem chk_session_does_2 : chkFn Tryz.prog 77 c_session_does_2 = true := by kernel_rfl
theorem chk_token_Place : chkFn Tryz.prog 116 c_token_Place = true := by kernel_rfl
theorem chk_token_Ask_1 : chkFn Tryz.prog 118 c_token_Ask_1 = true := by kernel_rfl
theorem chk_token_Ask : chkFn Tryz.prog 80 c_token_Ask = true := by kernel_rfl
theorem chk_session_does_3 : chkFn Tryz.prog 79 c_session_does_3 = true := by kernel_rfl
theorem chk_slices_Delete_int : chkFn Tryz.prog 120 c_slices_Delete_int = true := by kernel_rfl
theorem chk_token_Free_1 : chkFn Tryz.prog 119 c_token_Free_1 = true := by kernel_rfl
theorem chk_token_Free : chkFn Tryz.prog 82 c_token_Free = true := by kernel_rfl
theorem chk_session_does_4 : chkFn Tryz.prog 81 c_session_does_4 = true := by kernel_rfl
theorem chk_session_does : chkFn Tryz.prog 31 c_session_does = true := by kernel_rfl
theorem chk_session_Take : chkFn Tryz.prog 11 c_session_Take = true := by kernel_rfl
theorem chk_session_Write : chkFn Tryz.prog 12 c_session_Write = true := by kernel_rfl
theorem chk_session_First : chkFn Tryz.prog 24 c_session_First = true := by kernel_rfl
theorem chk_law30_known : chkFn Tryz.prog 5 c_law30_known = true := by kernel_rfl
theorem chk_law30_great : chkFn Tryz.prog 6 c_law30_great = true := by kernel_rfl
theorem chk_ref28_Copy : chkFn Tryz.prog 25 c_ref28_Copy = true := by kernel_rfl
theorem chk_ref30_Copy : chkFn Tryz.prog 7 c_ref30_Copy = true := by kernel_rfl
theorem chk_ref28_Same : chkFn Tryz.prog 21 c_ref28_Same = true := by kernel_rfl
theorem chk_ref26_Same : chkFn Tryz.prog 34 c_ref26_Same = true := by kernel_rfl
theorem chk_ref27_Same : chkFn Tryz.prog 35 c_ref27_Same = true := by kernel_rfl
theorem chk_ref30_Same : chkFn Tryz.prog 13 c_ref30_Same = true := by kernel_rfl
theorem chk_ref20_List : chkFn Tryz.prog 85 c_ref20_List = true := by kernel_rfl
theorem chk_ref26_May : chkFn Tryz.prog 36 c_ref26_May = true := by kernel_rfl
theorem chk_ref27_All : chkFn Tryz.prog 40 c_ref27_All = true := by kernel_rfl
theorem chk_ref27_Has : chkFn Tryz.prog 86 c_ref27_Has = true := by kernel_rfl
theorem chk_ref27_May : chkFn Tryz.prog 37 c_ref27_May = true := by kernel_rfl
theorem chk_ref28_Size : chkFn Tryz.prog 48 c_ref28_Size = true := by kernel_rfl
theorem chk_ref28_Piece : chkFn Tryz.prog 87 c_ref28_Piece = true := by kernel_rfl
theorem chk_ref28_May : chkFn Tryz.prog 38 c_ref28_May = true := by kernel_rfl
theorem chk_ref29_May : chkFn Tryz.prog 39 c_ref29_May = true := by kernel_rfl
theorem chk_ref26_Role : chkFn Tryz.prog 41 c_ref26_Role = true := by kernel_rfl
theorem chk_ref30_May : chkFn Tryz.prog 14 c_ref30_May = true := by kernel_rfl
theorem chk_bytes_Equal : chkFn Tryz.prog 62 c_bytes_Equal = true := by kernel_rfl
theorem chk_session_Same_1 : chkFn Tryz.prog 61 c_session_Same_1 = true := by kernel_rfl
theorem chk_slices_Equal_Member : chkFn Tryz.prog 63 c_slices_Equal_Member = true := by kernel_rfl
theorem chk_slices_Equal_int : chkFn Tryz.prog 64 c_slices_Equal_int = true := by kernel_rfl
theorem chk_slices_EqualFunc_LTyped_LTyped_Typed_Typed : chkFn Tryz.prog 65 c_slices_EqualFunc_LTyped_LTyped_Typed_Typed = true := by kernel_rfl
theorem chk_session_Same : chkFn Tryz.prog 23 c_session_Same = true := by kernel_rfl
theorem chk_law30_SessionMay : chkFn Tryz.prog 4 c_law30_SessionMay = true := by kernel_rfl
theorem mixFT : (Tryz.prog).follows .mixedOrders = true := by kernel_rfl
end Go.Proofs.YthcnhibjddomdaaGreat
