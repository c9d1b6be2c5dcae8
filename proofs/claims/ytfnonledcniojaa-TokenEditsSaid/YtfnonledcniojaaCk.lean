/- The seat's table stands for the program. Conditions: none. -/
import Derived.Test.YtfnonledcniojaaCj
import Derived.Test.YtfnonledcniojaaCx
set_option linter.unusedVariables false
set_option linter.unusedSimpArgs false
set_option linter.unusedSectionVars false
namespace Go.Proofs.Ytfnonledcniojaa
open Go
theorem entFT (G : Nat → Option (List AV)) : EntOk Try.prog G FT := by
  intro f ent hf
  unfold FT at hf
  split at hf
  · cases hf; exact chk_token_number
  · cases hf; exact chk_token_May
  · cases hf; exact chk_slices_Index_int
  · cases hf; exact chk_token_Place
  · cases hf; exact ext_slices_Clone_int G
  · cases hf; exact chk_token_arbiter_on
  · cases hf; exact chk_token_change
  · cases hf; exact chk_slices_Delete_int
  · cases hf; exact chk_token_Free_1
  · cases hf; exact chk_token_Free
  · cases hf; exact chk_slices_Contains_int
  · cases hf; exact chk_token_Keep_1
  · cases hf; exact chk_slices_IndexFunc_int
  · cases hf; exact chk_slices_DeleteFunc_int
  · cases hf; exact chk_token_Keep_2
  · cases hf; exact chk_token_Keep
  · cases hf; exact chk_ref27_Same
  · cases hf; exact chk_token_Ask_1
  · cases hf; exact chk_token_Ask
  · cases hf; exact chk_law27_asked
  · cases hf; exact chk_law27_known
  · cases hf; exact chk_ref27_All
  · cases hf; exact chk_ref27_Has
  · cases hf; exact chk_ref27_May
  · cases hf; exact chk_ref27_Of
  · cases hf; exact chk_ref27_Keep
  · cases hf; exact chk_ref27_Ask
  · cases hf; exact chk_ref27_Free
  · cases hf; exact chk_law27_TokenEdits
  · cases hf
end Go.Proofs.Ytfnonledcniojaa
