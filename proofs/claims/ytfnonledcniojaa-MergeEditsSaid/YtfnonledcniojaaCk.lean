/- The seat's table stands for the program. Conditions: none. -/
import Derived.Test.YtfnonledcniojaaCj
import Derived.Test.YtfnonledcniojaaCx
import Derived.Test.YtfnonledcniojaaSzx
set_option linter.unusedVariables false
set_option linter.unusedSimpArgs false
set_option linter.unusedSectionVars false
namespace Go.Proofs.Ytfnonledcniojaa
open Go
variable [FrB]
theorem entFT (G : Nat → Option (List AV)) : EntOk Try.prog G FT := by
  intro f ent hf
  unfold FT at hf
  split at hf
  · cases hf; exact chk_merge_piece
  · cases hf; exact chk_merge_May
  · cases hf; exact ext_merge_Size G
  · cases hf; exact ext_bytes_Clone G
  · cases hf; exact chk_merge_copied
  · cases hf; exact chk_merge_Push
  · cases hf; exact chk_merge_Pop
  · cases hf; exact chk_slices_IndexFunc_Typed
  · cases hf; exact chk_slices_DeleteFunc_Typed
  · cases hf; exact chk_merge_Drop_1
  · cases hf; exact chk_merge_Drop
  · cases hf; exact chk_law28_known
  · cases hf; exact chk_law28_great
  · cases hf; exact chk_ref28_Copy
  · cases hf; exact chk_ref28_Size
  · cases hf; exact chk_ref28_Piece
  · cases hf; exact chk_ref28_May
  · cases hf; exact chk_ref28_Same
  · cases hf; exact chk_ref28_First
  · cases hf; exact chk_ref28_Drop
  · cases hf; exact chk_law28_MergeEdits
  · cases hf
end Go.Proofs.Ytfnonledcniojaa
