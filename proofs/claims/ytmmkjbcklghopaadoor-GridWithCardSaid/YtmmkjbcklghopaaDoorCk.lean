/- The seat's table stands for the program. Conditions: none. -/
import Derived.Test.YtmmkjbcklghopaaDoorCj
import Derived.Test.YtmmkjbcklghopaaDoorCx
set_option linter.unusedVariables false
set_option linter.unusedSimpArgs false
set_option linter.unusedSectionVars false
namespace Go.Proofs.YtmmkjbcklghopaaDoor
open Go
theorem entFT (G : Nat → Option (List AV)) : EntOk Tryd.prog G FT := by
  intro f ent hf
  unfold FT at hf
  split at hf
  · cases hf; exact chk_grid_side
  · cases hf; exact chk_slices_IndexFunc_LCell
  · cases hf; exact chk_slices_ContainsFunc_LCell
  · cases hf; exact chk_pen_May_1
  · cases hf; exact chk_pen_May
  · cases hf; exact chk_sort_Search
  · cases hf; exact chk_cols_Of_1
  · cases hf; exact chk_cols_Of
  · cases hf; exact chk_line_marked
  · cases hf; exact chk_line_may
  · cases hf; exact chk_line_May
  · cases hf; exact chk_grid_May_1
  · cases hf; exact chk_grid_May
  · cases hf; exact ext_slices_Clone_Cell G
  · cases hf; exact chk_grid_copied
  · cases hf; exact chk_math_bits_Mul32
  · cases hf; exact chk_math_bits_Mul64
  · cases hf; exact chk_math_bits_Mul
  · cases hf; exact chk_slices_Repeat_Cell
  · cases hf; exact chk_line_blank
  · cases hf; exact chk_line_Blank
  · cases hf; exact chk_grid_Scroll
  · cases hf; exact chk_ref14_Same
  · cases hf; exact chk_ref15_Same
  · cases hf; exact chk_grid_Erase_1
  · cases hf; exact chk_line_fine
  · cases hf; exact chk_line_torn
  · cases hf; exact chk_line_Erase
  · cases hf; exact chk_grid_Erase
  · cases hf; exact chk_law15_abc
  · cases hf; exact chk_law15_known
  · cases hf; exact chk_law15_great
  · cases hf; exact chk_ref15_Copy
  · cases hf; exact chk_ref15_Side
  · cases hf; exact chk_ref13_in
  · cases hf; exact chk_ref13_Of
  · cases hf; exact chk_ref12_May
  · cases hf; exact chk_ref14_Cell
  · cases hf; exact chk_ref14_May
  · cases hf; exact chk_ref15_May
  · cases hf; exact chk_ref14_Pen
  · cases hf; exact chk_law15_fine
  · cases hf; exact chk_grid_With
  · cases hf; exact chk_law15_GridWith_1
  · cases hf; exact chk_ref15_With
  · cases hf; exact chk_line_Put
  · cases hf; exact chk_law15_GridWith_2
  · cases hf; exact chk_ref14_Blank
  · cases hf; exact chk_ref14_Tear
  · cases hf; exact chk_ref14_Put
  · cases hf; exact chk_law15_GridWith
  · cases hf
end Go.Proofs.YtmmkjbcklghopaaDoor
