/- The seat's table stands for the program. Conditions: none. -/
import Derived.Test.YtfnonledcniojaaCj
import Derived.Test.YtfnonledcniojaaCx
set_option linter.unusedVariables false
set_option linter.unusedSimpArgs false
set_option linter.unusedSectionVars false
namespace Go.Proofs.Ytfnonledcniojaa
open Go
theorem entFT (G : Nat → Option (List AV)) : EntOk Try.prog G FT := by
  intro f ent hf
  unfold FT at hf
  split at hf
  · cases hf; exact chk_merge_piece
  · cases hf; exact chk_merge_May
  · cases hf; exact chk_merge_Bytes_1
  · cases hf; exact chk_merge_Bytes
  · cases hf; exact chk_merge_Size
  · cases hf; exact ext_bytes_Clone G
  · cases hf; exact chk_merge_copied
  · cases hf; exact chk_merge_Push
  · cases hf; exact chk_merge_Pop
  · cases hf; exact chk_slices_IndexFunc_Typed
  · cases hf; exact chk_slices_DeleteFunc_Typed
  · cases hf; exact chk_merge_Drop_1
  · cases hf; exact chk_merge_Drop
  · cases hf; exact chk_law28_known
  · cases hf; exact chk_law28_great
  · cases hf; exact chk_ref28_Copy
  · cases hf; exact chk_ref28_Size
  · cases hf; exact chk_ref28_Piece
  · cases hf; exact chk_ref28_May
  · cases hf; exact chk_ref28_Same
  · cases hf; exact chk_ref28_First
  · cases hf; exact chk_ref28_Drop
  · cases hf; exact chk_law28_MergeEdits
  · cases hf; exact chk_law28_MergeBytes
  · cases hf; exact chk_law28_MergeOrder
  · cases hf; exact chk_law28_MergeParts
  · cases hf; exact chk_token_number
  · cases hf; exact chk_token_May
  · cases hf; exact chk_slices_Index_int
  · cases hf; exact chk_token_Place
  · cases hf; exact ext_slices_Clone_int G
  · cases hf; exact chk_token_arbiter_on
  · cases hf; exact chk_token_change
  · cases hf; exact chk_slices_Delete_int
  · cases hf; exact chk_token_Free_1
  · cases hf; exact chk_token_Free
  · cases hf; exact chk_slices_Contains_int
  · cases hf; exact chk_token_Keep_1
  · cases hf; exact chk_slices_IndexFunc_int
  · cases hf; exact chk_slices_DeleteFunc_int
  · cases hf; exact chk_token_Keep_2
  · cases hf; exact chk_token_Keep
  · cases hf; exact chk_ref27_Same
  · cases hf; exact chk_token_Ask_1
  · cases hf; exact chk_token_Ask
  · cases hf; exact chk_law27_asked
  · cases hf; exact chk_law27_known
  · cases hf; exact chk_law27_TokenOrder
  · cases hf; exact chk_law27_alike
  · cases hf; exact chk_law27_TokenKeeps
  · cases hf; exact chk_slices_IndexFunc_Member
  · cases hf; exact chk_slices_ContainsFunc_Member
  · cases hf; exact chk_roster_role
  · cases hf; exact chk_roster_May_1
  · cases hf; exact chk_roster_May
  · cases hf; exact chk_slices_BinarySearchFunc_Member_int
  · cases hf; exact chk_roster_place_1
  · cases hf; exact chk_roster_place
  · cases hf; exact chk_roster_Find
  · cases hf; exact chk_roster_Writers
  · cases hf; exact chk_slices_Reverse_Member
  · cases hf; exact chk_slices_rotateLeft_Member
  · cases hf; exact chk_slices_rotateRight_Member
  · cases hf; exact chk_slices_Insert_Member
  · cases hf; exact ext_slices_Clone_Member G
  · cases hf; exact chk_roster_Join
  · cases hf; exact chk_slices_DeleteFunc_Member
  · cases hf; exact chk_roster_Leave_1
  · cases hf; exact chk_roster_Leave
  · cases hf; exact chk_law26_known
  · cases hf; exact chk_ref20_List
  · cases hf; exact chk_ref26_May
  · cases hf; exact chk_ref26_Role
  · cases hf; exact chk_law26_RosterAsks
  · cases hf; exact chk_roster_Change
  · cases hf; exact chk_ref26_With
  · cases hf; exact chk_ref26_Join
  · cases hf; exact chk_ref26_Leave
  · cases hf; exact chk_ref26_Change
  · cases hf; exact chk_ref26_Same
  · cases hf; exact chk_law26_RosterEdits
  · cases hf; exact chk_law26_RosterAlone
  · cases hf; exact chk_law26_RosterBack
  · cases hf
end Go.Proofs.Ytfnonledcniojaa
