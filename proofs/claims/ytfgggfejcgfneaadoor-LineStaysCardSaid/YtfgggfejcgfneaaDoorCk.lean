/- The seat's table stands for the program. Conditions: none. -/
import Derived.Test.YtfgggfejcgfneaaDoorCj
import Derived.Test.YtfgggfejcgfneaaDoorCx
set_option linter.unusedVariables false
set_option linter.unusedSimpArgs false
set_option linter.unusedSectionVars false
namespace Go.Proofs.YtfgggfejcgfneaaDoor
open Go
theorem entFT (G : Nat → Option (List AV)) : EntOk Tryd.prog G FT := by
  intro f ent hf
  unfold FT at hf
  split at hf
  · cases hf; exact chk_pen_May_1
  · cases hf; exact chk_pen_May
  · cases hf; exact chk_math_bits_Mul32
  · cases hf; exact chk_math_bits_Mul64
  · cases hf; exact chk_math_bits_Mul
  · cases hf; exact chk_slices_Repeat_Cell
  · cases hf; exact chk_line_blank
  · cases hf; exact chk_line_Blank
  · cases hf; exact chk_sort_Search
  · cases hf; exact chk_cols_Of_1
  · cases hf; exact chk_cols_Of
  · cases hf; exact chk_line_marked
  · cases hf; exact chk_line_may
  · cases hf; exact chk_line_May
  · cases hf; exact chk_line_fine
  · cases hf; exact ext_slices_Clone_Cell G
  · cases hf; exact chk_line_torn
  · cases hf; exact chk_line_Put
  · cases hf; exact chk_law14_known
  · cases hf; exact chk_ref12_May
  · cases hf; exact chk_ref14_Pen
  · cases hf; exact chk_ref14_Same
  · cases hf; exact chk_ref14_Blank
  · cases hf; exact chk_ref14_Blanks
  · cases hf; exact chk_ref13_in
  · cases hf; exact chk_ref13_Of
  · cases hf; exact chk_ref14_Cell
  · cases hf; exact chk_ref14_May
  · cases hf; exact chk_law14_LineMay
  · cases hf; exact chk_line_Insert
  · cases hf; exact chk_line_Delete
  · cases hf; exact chk_law14_LineThere
  · cases hf; exact chk_line_Erase
  · cases hf; exact chk_line_Fit
  · cases hf; exact chk_law14_fine
  · cases hf; exact chk_ref14_Tear
  · cases hf; exact chk_ref14_Erase
  · cases hf; exact chk_ref14_Insert
  · cases hf; exact chk_ref14_Delete
  · cases hf; exact chk_ref14_Fit
  · cases hf; exact chk_law14_LineEdits
  · cases hf; exact chk_line_Mark
  · cases hf; exact chk_line_Tear
  · cases hf; exact chk_law14_does
  · cases hf; exact chk_law14_LineWhole
  · cases hf; exact chk_law14_LineStays
  · cases hf
end Go.Proofs.YtfgggfejcgfneaaDoor
