/- The seat's code is the program's. Conditions: none. -/
import Derived.Test.YtfnonledcniojaaM2
import Derived.Test.YtfnonledcniojaaCd
import Derived.Test.YtfnonledcniojaaRows
set_option linter.unusedVariables false
set_option linter.unusedSimpArgs false
set_option linter.unusedSectionVars false
namespace Go.Proofs.Ytfnonledcniojaa
open Go
theorem chk_merge_piece : chkFn Try.prog 56 c_merge_piece = true := by kernel_rfl
theorem chk_merge_May : chkFn Try.prog 20 c_merge_May = true := by kernel_rfl
theorem chk_merge_Bytes_1 : chkFn Try.prog 59 c_merge_Bytes_1 = true := by kernel_rfl
theorem chk_merge_Bytes : chkFn Try.prog 28 c_merge_Bytes = true := by kernel_rfl
theorem chk_merge_Size : chkFn Try.prog 23 c_merge_Size = true := by kernel_rfl
theorem chk_bytes_Clone : chkFn Try.prog 83 c_bytes_Clone = true := by kernel_rfl
theorem chk_merge_copied : chkFn Try.prog 55 c_merge_copied = true := by kernel_rfl
theorem chk_merge_Push : chkFn Try.prog 17 c_merge_Push = true := by kernel_rfl
theorem chk_merge_Pop : chkFn Try.prog 18 c_merge_Pop = true := by kernel_rfl
theorem chk_slices_IndexFunc_Typed : chkFn Try.prog 84 c_slices_IndexFunc_Typed = true := by kernel_rfl
theorem chk_slices_DeleteFunc_Typed : chkFn Try.prog 57 c_slices_DeleteFunc_Typed = true := by kernel_rfl
theorem chk_merge_Drop_1 : chkFn Try.prog 58 c_merge_Drop_1 = true := by kernel_rfl
theorem chk_merge_Drop : chkFn Try.prog 19 c_merge_Drop = true := by kernel_rfl
theorem chk_law28_known : chkFn Try.prog 14 c_law28_known = true := by kernel_rfl
theorem chk_law28_great : chkFn Try.prog 15 c_law28_great = true := by kernel_rfl
theorem chk_ref28_Copy : chkFn Try.prog 16 c_ref28_Copy = true := by kernel_rfl
theorem chk_ref28_Size : chkFn Try.prog 25 c_ref28_Size = true := by kernel_rfl
theorem chk_ref28_Piece : chkFn Try.prog 27 c_ref28_Piece = true := by kernel_rfl
theorem chk_ref28_May : chkFn Try.prog 21 c_ref28_May = true := by kernel_rfl
theorem chk_ref28_Same : chkFn Try.prog 22 c_ref28_Same = true := by kernel_rfl
theorem chk_ref28_First : chkFn Try.prog 24 c_ref28_First = true := by kernel_rfl
theorem chk_ref28_Drop : chkFn Try.prog 26 c_ref28_Drop = true := by kernel_rfl
theorem chk_law28_MergeEdits : chkFn Try.prog 3 c_law28_MergeEdits = true := by kernel_rfl
theorem chk_law28_MergeBytes : chkFn Try.prog 4 c_law28_MergeBytes = true := by kernel_rfl
theorem chk_law28_MergeOrder : chkFn Try.prog 5 c_law28_MergeOrder = true := by kernel_rfl
theorem chk_law28_MergeParts : chkFn Try.prog 6 c_law28_MergeParts = true := by kernel_rfl
theorem chk_token_number : chkFn Try.prog 61 c_token_number = true := by kernel_rfl
theorem chk_token_May : chkFn Try.prog 35 c_token_May = true := by kernel_rfl
theorem chk_slices_Index_int : chkFn Try.prog 70 c_slices_Index_int = true := by kernel_rfl
theorem chk_token_Place : chkFn Try.prog 33 c_token_Place = true := by kernel_rfl
theorem chk_slices_Clone_int : chkFn Try.prog 85 c_slices_Clone_int = true := by kernel_rfl
theorem chk_token_arbiter_on : chkFn Try.prog 86 c_token_arbiter_on = true := by kernel_rfl
theorem chk_token_change : chkFn Try.prog 62 c_token_change = true := by kernel_rfl
theorem chk_slices_Delete_int : chkFn Try.prog 65 c_slices_Delete_int = true := by kernel_rfl
theorem chk_token_Free_1 : chkFn Try.prog 64 c_token_Free_1 = true := by kernel_rfl
theorem chk_token_Free : chkFn Try.prog 31 c_token_Free = true := by kernel_rfl
theorem chk_slices_Contains_int : chkFn Try.prog 67 c_slices_Contains_int = true := by kernel_rfl
theorem chk_token_Keep_1 : chkFn Try.prog 66 c_token_Keep_1 = true := by kernel_rfl
theorem chk_slices_IndexFunc_int : chkFn Try.prog 87 c_slices_IndexFunc_int = true := by kernel_rfl
theorem chk_slices_DeleteFunc_int : chkFn Try.prog 69 c_slices_DeleteFunc_int = true := by kernel_rfl
theorem chk_token_Keep_2 : chkFn Try.prog 68 c_token_Keep_2 = true := by kernel_rfl
theorem chk_token_Keep : chkFn Try.prog 32 c_token_Keep = true := by kernel_rfl
theorem chk_ref27_Same : chkFn Try.prog 34 c_ref27_Same = true := by kernel_rfl
theorem chk_token_Ask_1 : chkFn Try.prog 63 c_token_Ask_1 = true := by kernel_rfl
theorem chk_token_Ask : chkFn Try.prog 30 c_token_Ask = true := by kernel_rfl
theorem chk_law27_asked : chkFn Try.prog 60 c_law27_asked = true := by kernel_rfl
theorem chk_law27_known : chkFn Try.prog 29 c_law27_known = true := by kernel_rfl
theorem chk_law27_TokenOrder : chkFn Try.prog 8 c_law27_TokenOrder = true := by kernel_rfl
theorem chk_law27_alike : chkFn Try.prog 41 c_law27_alike = true := by kernel_rfl
theorem chk_law27_TokenKeeps : chkFn Try.prog 9 c_law27_TokenKeeps = true := by kernel_rfl
theorem chk_slices_IndexFunc_Member : chkFn Try.prog 90 c_slices_IndexFunc_Member = true := by kernel_rfl
theorem chk_slices_ContainsFunc_Member : chkFn Try.prog 75 c_slices_ContainsFunc_Member = true := by kernel_rfl
theorem chk_roster_role : chkFn Try.prog 77 c_roster_role = true := by kernel_rfl
theorem chk_roster_May_1 : chkFn Try.prog 76 c_roster_May_1 = true := by kernel_rfl
theorem chk_roster_May : chkFn Try.prog 46 c_roster_May = true := by kernel_rfl
theorem chk_slices_BinarySearchFunc_Member_int : chkFn Try.prog 88 c_slices_BinarySearchFunc_Member_int = true := by kernel_rfl
theorem chk_roster_place_1 : chkFn Try.prog 89 c_roster_place_1 = true := by kernel_rfl
theorem chk_roster_place : chkFn Try.prog 74 c_roster_place = true := by kernel_rfl
theorem chk_roster_Find : chkFn Try.prog 44 c_roster_Find = true := by kernel_rfl
theorem chk_roster_Writers : chkFn Try.prog 47 c_roster_Writers = true := by kernel_rfl
theorem chk_slices_Reverse_Member : chkFn Try.prog 94 c_slices_Reverse_Member = true := by kernel_rfl
theorem chk_slices_rotateLeft_Member : chkFn Try.prog 93 c_slices_rotateLeft_Member = true := by kernel_rfl
theorem chk_slices_rotateRight_Member : chkFn Try.prog 92 c_slices_rotateRight_Member = true := by kernel_rfl
theorem chk_slices_Insert_Member : chkFn Try.prog 78 c_slices_Insert_Member = true := by kernel_rfl
theorem chk_slices_Clone_Member : chkFn Try.prog 79 c_slices_Clone_Member = true := by kernel_rfl
theorem chk_roster_Join : chkFn Try.prog 48 c_roster_Join = true := by kernel_rfl
theorem chk_slices_DeleteFunc_Member : chkFn Try.prog 80 c_slices_DeleteFunc_Member = true := by kernel_rfl
theorem chk_roster_Leave_1 : chkFn Try.prog 81 c_roster_Leave_1 = true := by kernel_rfl
theorem chk_roster_Leave : chkFn Try.prog 49 c_roster_Leave = true := by kernel_rfl
theorem chk_law26_known : chkFn Try.prog 42 c_law26_known = true := by kernel_rfl
theorem chk_ref20_List : chkFn Try.prog 73 c_ref20_List = true := by kernel_rfl
theorem chk_ref26_May : chkFn Try.prog 43 c_ref26_May = true := by kernel_rfl
theorem chk_ref26_Role : chkFn Try.prog 45 c_ref26_Role = true := by kernel_rfl
theorem chk_law26_RosterAsks : chkFn Try.prog 10 c_law26_RosterAsks = true := by kernel_rfl
theorem chk_roster_Change : chkFn Try.prog 50 c_roster_Change = true := by kernel_rfl
theorem chk_ref26_With : chkFn Try.prog 82 c_ref26_With = true := by kernel_rfl
theorem chk_ref26_Join : chkFn Try.prog 51 c_ref26_Join = true := by kernel_rfl
theorem chk_ref26_Leave : chkFn Try.prog 52 c_ref26_Leave = true := by kernel_rfl
theorem chk_ref26_Change : chkFn Try.prog 53 c_ref26_Change = true := by kernel_rfl
theorem chk_ref26_Same : chkFn Try.prog 54 c_ref26_Same = true := by kernel_rfl
theorem chk_law26_RosterEdits : chkFn Try.prog 11 c_law26_RosterEdits = true := by kernel_rfl
theorem chk_law26_RosterAlone : chkFn Try.prog 12 c_law26_RosterAlone = true := by kernel_rfl
theorem chk_law26_RosterBack : chkFn Try.prog 13 c_law26_RosterBack = true := by kernel_rfl
theorem mixFT : (Try.prog).follows .mixedOrders = true := by kernel_rfl
end Go.Proofs.Ytfnonledcniojaa
