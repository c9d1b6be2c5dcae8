/- The seat's table stands for the program. Conditions: none. -/
import Derived.Test.YtfnonledcniojaaCj
import Derived.Test.YtfnonledcniojaaCx
import Derived.Test.YtfnonledcniojaaIns
set_option linter.unusedVariables false
set_option linter.unusedSimpArgs false
set_option linter.unusedSectionVars false
namespace Go.Proofs.Ytfnonledcniojaa
open Go
theorem entFT (G : Nat → Option (List AV)) : EntOk Try.prog G FT := by
  intro f ent hf
  unfold FT at hf
  split at hf
  · cases hf; exact chk_slices_IndexFunc_Member
  · cases hf; exact chk_slices_ContainsFunc_Member
  · cases hf; exact chk_roster_role
  · cases hf; exact chk_roster_May_1
  · cases hf; exact chk_roster_May
  · cases hf; exact chk_slices_BinarySearchFunc_Member_int
  · cases hf; exact chk_roster_place_1
  · cases hf; exact chk_roster_place
  · cases hf; exact chk_roster_Find
  · cases hf; exact chk_roster_Writers
  · cases hf; exact ext_slices_Insert_Member G
  · cases hf; exact ext_slices_Clone_Member G
  · cases hf; exact chk_roster_Join
  · cases hf; exact chk_slices_DeleteFunc_Member
  · cases hf; exact chk_roster_Leave_1
  · cases hf; exact chk_roster_Leave
  · cases hf; exact chk_law26_known
  · cases hf; exact chk_roster_Change
  · cases hf; exact chk_law26_RosterAlone
  · cases hf
end Go.Proofs.Ytfnonledcniojaa
