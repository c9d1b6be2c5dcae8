/- The seat's table stands for the program. Conditions: none. -/
import Derived.Test.YtcjlkggdcnochaaCj
set_option linter.unusedVariables false
set_option linter.unusedSimpArgs false
set_option linter.unusedSectionVars false
namespace Go.Proofs.Ytcjlkggdcnochaa
open Go
theorem entFT (G : Nat → Option (List AV)) : EntOk Try.prog G FT := by
  intro f ent hf
  unfold FT at hf
  split at hf
  · cases hf; exact chk_size_side
  · cases hf; exact chk_size_window
  · cases hf; exact chk_size_May
  · cases hf; exact chk_size_member
  · cases hf; exact chk_size_Least
  · cases hf; exact chk_size_Set
  · cases hf; exact chk_law29_known
  · cases hf; exact chk_law29_SizeFits
  · cases hf
end Go.Proofs.Ytcjlkggdcnochaa
