/- The seat's table stands for the program. Conditions: none. -/
import Derived.Test.YthcnhibjddomdaaGreatCj
import Derived.Test.YthcnhibjddomdaaGreatCx
import Derived.Test.YthcnhibjddomdaaGreatIns
import Derived.Test.YthcnhibjddomdaaGreatSzx
set_option linter.unusedVariables false
set_option linter.unusedSimpArgs false
set_option linter.unusedSectionVars false
namespace Go.Proofs.YthcnhibjddomdaaGreat
open Go
theorem entFT (G : Nat → Option (List AV)) : EntOk Tryz.prog G FT := by
  intro f ent hf
  unfold FT at hf
  split at hf
  · cases hf; exact chk_slices_IndexFunc_Member
  · cases hf; exact chk_slices_ContainsFunc_Member
  · cases hf; exact chk_roster_role
  · cases hf; exact chk_roster_May_1
  · cases hf; exact chk_roster_May
  · cases hf; exact chk_slices_BinarySearchFunc_Member_int
  · cases hf; exact chk_roster_place_1
  · cases hf; exact chk_roster_place
  · cases hf; exact chk_roster_Find
  · cases hf; exact chk_token_number
  · cases hf; exact chk_token_May
  · cases hf; exact chk_merge_piece
  · cases hf; exact chk_merge_May
  · cases hf; exact chk_size_side
  · cases hf; exact chk_size_window
  · cases hf; exact chk_size_May
  · cases hf; exact chk_session_writes
  · cases hf; exact chk_slices_IndexFunc_int
  · cases hf; exact chk_slices_ContainsFunc_int
  · cases hf; exact chk_session_May_1
  · cases hf; exact chk_slices_IndexFunc_Typed
  · cases hf; exact chk_slices_ContainsFunc_Typed
  · cases hf; exact chk_session_May_2
  · cases hf; exact chk_session_May
  · cases hf; exact ext_slices_Insert_Member G
  · cases hf; exact ext_slices_Clone_Member G
  · cases hf; exact chk_roster_Join
  · cases hf; exact ext_bytes_Clone G
  · cases hf; exact chk_merge_copied
  · cases hf; exact chk_merge_Pop
  · cases hf; exact ext_slices_Clone_int G
  · cases hf; exact chk_session_copied
  · cases hf; exact chk_slices_DeleteFunc_Typed
  · cases hf; exact chk_merge_Drop_1
  · cases hf; exact chk_merge_Drop
  · cases hf; exact chk_token_arbiter_on
  · cases hf; exact chk_token_change
  · cases hf; exact chk_slices_Index_int
  · cases hf; exact chk_slices_Contains_int
  · cases hf; exact chk_token_Keep_1
  · cases hf; exact chk_slices_DeleteFunc_int
  · cases hf; exact chk_token_Keep_2
  · cases hf; exact chk_token_Keep
  · cases hf; exact chk_roster_Writers
  · cases hf; exact chk_size_member
  · cases hf; exact chk_size_Least
  · cases hf; exact chk_session_settled
  · cases hf; exact chk_session_with
  · cases hf; exact chk_session_Join
  · cases hf; exact chk_slices_DeleteFunc_Member
  · cases hf; exact chk_roster_Leave_1
  · cases hf; exact chk_roster_Leave
  · cases hf; exact chk_session_Leave
  · cases hf; exact chk_roster_Change
  · cases hf; exact chk_session_Change
  · cases hf; exact chk_slices_IndexFunc_Deed
  · cases hf; exact chk_slices_ContainsFunc_Deed
  · cases hf; exact chk_input_may_1
  · cases hf; exact chk_input_may
  · cases hf; exact chk_input_May_1
  · cases hf; exact chk_input_May
  · cases hf; exact ext_merge_Size G
  · cases hf; exact chk_merge_Push
  · cases hf; exact chk_session_does_1
  · cases hf; exact chk_size_Set
  · cases hf; exact chk_session_does_2
  · cases hf; exact chk_token_Place
  · cases hf; exact chk_token_Ask_1
  · cases hf; exact chk_token_Ask
  · cases hf; exact chk_session_does_3
  · cases hf; exact chk_slices_Delete_int
  · cases hf; exact chk_token_Free_1
  · cases hf; exact chk_token_Free
  · cases hf; exact chk_session_does_4
  · cases hf; exact chk_session_does
  · cases hf; exact chk_session_Take
  · cases hf; exact chk_session_Write
  · cases hf; exact chk_session_First
  · cases hf; exact chk_law30_known
  · cases hf; exact chk_law30_great
  · cases hf; exact chk_ref28_Copy
  · cases hf; exact chk_ref30_Copy
  · cases hf; exact chk_ref28_Same
  · cases hf; exact chk_ref26_Same
  · cases hf; exact chk_ref27_Same
  · cases hf; exact chk_ref30_Same
  · cases hf; exact chk_ref20_List
  · cases hf; exact chk_ref26_May
  · cases hf; exact chk_ref27_All
  · cases hf; exact chk_ref27_Has
  · cases hf; exact chk_ref27_May
  · cases hf; exact chk_ref28_Size
  · cases hf; exact chk_ref28_Piece
  · cases hf; exact chk_ref28_May
  · cases hf; exact chk_ref29_May
  · cases hf; exact chk_ref26_Role
  · cases hf; exact chk_ref30_May
  · cases hf; exact chk_bytes_Equal
  · cases hf; exact chk_session_Same_1
  · cases hf; exact chk_slices_Equal_Member
  · cases hf; exact chk_slices_Equal_int
  · cases hf; exact chk_slices_EqualFunc_LTyped_LTyped_Typed_Typed
  · cases hf; exact chk_session_Same
  · cases hf; exact chk_law30_SessionMay
  · cases hf
end Go.Proofs.YthcnhibjddomdaaGreat
