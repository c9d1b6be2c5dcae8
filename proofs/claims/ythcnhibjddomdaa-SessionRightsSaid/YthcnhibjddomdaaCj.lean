/- The seat's code is the program's. Conditions: none. -/
import Derived.Test.YthcnhibjddomdaaM3
import Derived.Test.YthcnhibjddomdaaCd
import Derived.Test.YthcnhibjddomdaaRows
set_option linter.unusedVariables false
set_option linter.unusedSimpArgs false
set_option linter.unusedSectionVars false
namespace Go.Proofs.Ythcnhibjddomdaa
open Go
theorem chk_session_First : chkFn Try.prog 7 c_session_First = true := by kernel_rfl
theorem chk_slices_IndexFunc_Member : chkFn Try.prog 76 c_slices_IndexFunc_Member = true := by kernel_rfl
theorem chk_slices_ContainsFunc_Member : chkFn Try.prog 60 c_slices_ContainsFunc_Member = true := by kernel_rfl
theorem chk_roster_role : chkFn Try.prog 41 c_roster_role = true := by kernel_rfl
theorem chk_roster_May_1 : chkFn Try.prog 61 c_roster_May_1 = true := by kernel_rfl
theorem chk_roster_May : chkFn Try.prog 27 c_roster_May = true := by kernel_rfl
theorem chk_slices_BinarySearchFunc_Member_int : chkFn Try.prog 67 c_slices_BinarySearchFunc_Member_int = true := by kernel_rfl
theorem chk_roster_place_1 : chkFn Try.prog 68 c_roster_place_1 = true := by kernel_rfl
theorem chk_roster_place : chkFn Try.prog 42 c_roster_place = true := by kernel_rfl
theorem chk_roster_Find : chkFn Try.prog 23 c_roster_Find = true := by kernel_rfl
theorem chk_token_number : chkFn Try.prog 62 c_token_number = true := by kernel_rfl
theorem chk_token_May : chkFn Try.prog 28 c_token_May = true := by kernel_rfl
theorem chk_merge_piece : chkFn Try.prog 63 c_merge_piece = true := by kernel_rfl
theorem chk_merge_May : chkFn Try.prog 29 c_merge_May = true := by kernel_rfl
theorem chk_size_side : chkFn Try.prog 82 c_size_side = true := by kernel_rfl
theorem chk_size_window : chkFn Try.prog 64 c_size_window = true := by kernel_rfl
theorem chk_size_May : chkFn Try.prog 30 c_size_May = true := by kernel_rfl
theorem chk_session_writes : chkFn Try.prog 31 c_session_writes = true := by kernel_rfl
theorem chk_slices_IndexFunc_int : chkFn Try.prog 65 c_slices_IndexFunc_int = true := by kernel_rfl
theorem chk_slices_ContainsFunc_int : chkFn Try.prog 32 c_slices_ContainsFunc_int = true := by kernel_rfl
theorem chk_session_May_1 : chkFn Try.prog 33 c_session_May_1 = true := by kernel_rfl
theorem chk_slices_IndexFunc_Typed : chkFn Try.prog 66 c_slices_IndexFunc_Typed = true := by kernel_rfl
theorem chk_slices_ContainsFunc_Typed : chkFn Try.prog 34 c_slices_ContainsFunc_Typed = true := by kernel_rfl
theorem chk_session_May_2 : chkFn Try.prog 35 c_session_May_2 = true := by kernel_rfl
theorem chk_session_May : chkFn Try.prog 14 c_session_May = true := by kernel_rfl
theorem chk_slices_Insert_Member : chkFn Try.prog 43 c_slices_Insert_Member = true := by kernel_rfl
theorem chk_slices_Clone_Member : chkFn Try.prog 44 c_slices_Clone_Member = true := by kernel_rfl
theorem chk_roster_Join : chkFn Try.prog 19 c_roster_Join = true := by kernel_rfl
theorem chk_bytes_Clone : chkFn Try.prog 88 c_bytes_Clone = true := by kernel_rfl
theorem chk_merge_copied : chkFn Try.prog 59 c_merge_copied = true := by kernel_rfl
theorem chk_merge_Pop : chkFn Try.prog 26 c_merge_Pop = true := by kernel_rfl
theorem chk_slices_Clone_int : chkFn Try.prog 58 c_slices_Clone_int = true := by kernel_rfl
theorem chk_session_copied : chkFn Try.prog 25 c_session_copied = true := by kernel_rfl
theorem chk_slices_DeleteFunc_Typed : chkFn Try.prog 71 c_slices_DeleteFunc_Typed = true := by kernel_rfl
theorem chk_merge_Drop_1 : chkFn Try.prog 72 c_merge_Drop_1 = true := by kernel_rfl
theorem chk_merge_Drop : chkFn Try.prog 45 c_merge_Drop = true := by kernel_rfl
theorem chk_token_arbiter_on : chkFn Try.prog 98 c_token_arbiter_on = true := by kernel_rfl
theorem chk_token_change : chkFn Try.prog 84 c_token_change = true := by kernel_rfl
theorem chk_slices_Index_int : chkFn Try.prog 97 c_slices_Index_int = true := by kernel_rfl
theorem chk_slices_Contains_int : chkFn Try.prog 91 c_slices_Contains_int = true := by kernel_rfl
theorem chk_token_Keep_1 : chkFn Try.prog 90 c_token_Keep_1 = true := by kernel_rfl
theorem chk_slices_DeleteFunc_int : chkFn Try.prog 93 c_slices_DeleteFunc_int = true := by kernel_rfl
theorem chk_token_Keep_2 : chkFn Try.prog 92 c_token_Keep_2 = true := by kernel_rfl
theorem chk_token_Keep : chkFn Try.prog 73 c_token_Keep = true := by kernel_rfl
theorem chk_roster_Writers : chkFn Try.prog 74 c_roster_Writers = true := by kernel_rfl
theorem chk_size_member : chkFn Try.prog 81 c_size_member = true := by kernel_rfl
theorem chk_size_Least : chkFn Try.prog 75 c_size_Least = true := by kernel_rfl
theorem chk_session_settled : chkFn Try.prog 46 c_session_settled = true := by kernel_rfl
theorem chk_session_with : chkFn Try.prog 20 c_session_with = true := by kernel_rfl
theorem chk_session_Join : chkFn Try.prog 8 c_session_Join = true := by kernel_rfl
theorem chk_slices_DeleteFunc_Member : chkFn Try.prog 47 c_slices_DeleteFunc_Member = true := by kernel_rfl
theorem chk_roster_Leave_1 : chkFn Try.prog 48 c_roster_Leave_1 = true := by kernel_rfl
theorem chk_roster_Leave : chkFn Try.prog 21 c_roster_Leave = true := by kernel_rfl
theorem chk_session_Leave : chkFn Try.prog 9 c_session_Leave = true := by kernel_rfl
theorem chk_roster_Change : chkFn Try.prog 22 c_roster_Change = true := by kernel_rfl
theorem chk_session_Change : chkFn Try.prog 10 c_session_Change = true := by kernel_rfl
theorem chk_slices_IndexFunc_Deed : chkFn Try.prog 94 c_slices_IndexFunc_Deed = true := by kernel_rfl
theorem chk_slices_ContainsFunc_Deed : chkFn Try.prog 77 c_slices_ContainsFunc_Deed = true := by kernel_rfl
theorem chk_input_may_1 : chkFn Try.prog 95 c_input_may_1 = true := by kernel_rfl
theorem chk_input_may : chkFn Try.prog 79 c_input_may = true := by kernel_rfl
theorem chk_input_May_1 : chkFn Try.prog 78 c_input_May_1 = true := by kernel_rfl
theorem chk_input_May : chkFn Try.prog 49 c_input_May = true := by kernel_rfl
theorem chk_merge_Push : chkFn Try.prog 51 c_merge_Push = true := by kernel_rfl
theorem chk_session_does_1 : chkFn Try.prog 50 c_session_does_1 = true := by kernel_rfl
theorem chk_size_Set : chkFn Try.prog 53 c_size_Set = true := by kernel_rfl
theorem chk_session_does_2 : chkFn Try.prog 52 c_session_does_2 = true := by kernel_rfl
theorem chk_token_Place : chkFn Try.prog 83 c_token_Place = true := by kernel_rfl
theorem chk_token_Ask_1 : chkFn Try.prog 85 c_token_Ask_1 = true := by kernel_rfl
theorem chk_token_Ask : chkFn Try.prog 55 c_token_Ask = true := by kernel_rfl
theorem chk_session_does_3 : chkFn Try.prog 54 c_session_does_3 = true := by kernel_rfl
theorem chk_slices_Delete_int : chkFn Try.prog 87 c_slices_Delete_int = true := by kernel_rfl
theorem chk_token_Free_1 : chkFn Try.prog 86 c_token_Free_1 = true := by kernel_rfl
theorem chk_token_Free : chkFn Try.prog 57 c_token_Free = true := by kernel_rfl
theorem chk_session_does_4 : chkFn Try.prog 56 c_session_does_4 = true := by kernel_rfl
theorem chk_session_does : chkFn Try.prog 24 c_session_does = true := by kernel_rfl
theorem chk_session_Take : chkFn Try.prog 11 c_session_Take = true := by kernel_rfl
theorem chk_session_Write : chkFn Try.prog 13 c_session_Write = true := by kernel_rfl
theorem chk_law30_known : chkFn Try.prog 6 c_law30_known = true := by kernel_rfl
theorem chk_law30_bytes : chkFn Try.prog 12 c_law30_bytes = true := by kernel_rfl
theorem chk_law30_role : chkFn Try.prog 15 c_law30_role = true := by kernel_rfl
theorem chk_law30_least : chkFn Try.prog 16 c_law30_least = true := by kernel_rfl
theorem chk_law30_SessionRights : chkFn Try.prog 3 c_law30_SessionRights = true := by kernel_rfl
theorem mixFT : (Try.prog).follows .mixedOrders = true := by kernel_rfl
end Go.Proofs.Ythcnhibjddomdaa
