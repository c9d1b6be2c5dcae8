/- The seat's table stands for the program. Conditions: none. -/
import Derived.Test.YtcjlkggdcnochaaDoorCj
set_option linter.unusedVariables false
set_option linter.unusedSimpArgs false
set_option linter.unusedSectionVars false
namespace Go.Proofs.YtcjlkggdcnochaaDoor
open Go
theorem entFT (G : Nat → Option (List AV)) : EntOk Tryd.prog G FT := by
  intro f ent hf
  unfold FT at hf
  split at hf
  · cases hf; exact chk_sort_Search
  · cases hf; exact chk_cols_Of_1
  · cases hf; exact chk_cols_Of
  · cases hf; exact chk_slices_Clone_rune
  · cases hf; exact chk_cols_Cut
  · cases hf; exact chk_ref13_Same
  · cases hf; exact chk_law13_known
  · cases hf; exact chk_ref13_in
  · cases hf; exact chk_ref13_Of
  · cases hf; exact chk_law13_ColsBounds
  · cases hf
end Go.Proofs.YtcjlkggdcnochaaDoor
