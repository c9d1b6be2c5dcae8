/- The seat's code is the program's. Conditions: none. -/
import Derived.Test.YtfgggfejcgfneaaDoorM2
import Derived.Test.YtfgggfejcgfneaaDoorCd
import Derived.Test.YtfgggfejcgfneaaDoorRows
set_option linter.unusedVariables false
set_option linter.unusedSimpArgs false
set_option linter.unusedSectionVars false
namespace Go.Proofs.YtfgggfejcgfneaaDoor
open Go
theorem chk_pen_May_1 : chkFn Tryd.prog 40 c_pen_May_1 = true := by kernel_rfl
theorem chk_pen_May : chkFn Tryd.prog 26 c_pen_May = true := by kernel_rfl
theorem chk_math_bits_Mul32 : chkFn Tryd.prog 46 c_math_bits_Mul32 = true := by kernel_rfl
theorem chk_math_bits_Mul64 : chkFn Tryd.prog 47 c_math_bits_Mul64 = true := by kernel_rfl
theorem chk_math_bits_Mul : chkFn Tryd.prog 41 c_math_bits_Mul = true := by kernel_rfl
theorem chk_slices_Repeat_Cell : chkFn Tryd.prog 27 c_slices_Repeat_Cell = true := by kernel_rfl
theorem chk_line_blank : chkFn Tryd.prog 28 c_line_blank = true := by kernel_rfl
theorem chk_line_Blank : chkFn Tryd.prog 9 c_line_Blank = true := by kernel_rfl
theorem chk_sort_Search : chkFn Tryd.prog 44 c_sort_Search = true := by kernel_rfl
theorem chk_cols_Of_1 : chkFn Tryd.prog 45 c_cols_Of_1 = true := by kernel_rfl
theorem chk_cols_Of : chkFn Tryd.prog 39 c_cols_Of = true := by kernel_rfl
theorem chk_line_marked : chkFn Tryd.prog 42 c_line_marked = true := by kernel_rfl
theorem chk_line_may : chkFn Tryd.prog 31 c_line_may = true := by kernel_rfl
theorem chk_line_May : chkFn Tryd.prog 13 c_line_May = true := by kernel_rfl
theorem chk_line_fine : chkFn Tryd.prog 33 c_line_fine = true := by kernel_rfl
theorem chk_slices_Clone_Cell : chkFn Tryd.prog 34 c_slices_Clone_Cell = true := by kernel_rfl
theorem chk_line_torn : chkFn Tryd.prog 35 c_line_torn = true := by kernel_rfl
theorem chk_line_Put : chkFn Tryd.prog 25 c_line_Put = true := by kernel_rfl
theorem chk_law14_known : chkFn Tryd.prog 8 c_law14_known = true := by kernel_rfl
theorem chk_ref12_May : chkFn Tryd.prog 29 c_ref12_May = true := by kernel_rfl
theorem chk_ref14_Pen : chkFn Tryd.prog 10 c_ref14_Pen = true := by kernel_rfl
theorem chk_ref14_Same : chkFn Tryd.prog 11 c_ref14_Same = true := by kernel_rfl
theorem chk_ref14_Blank : chkFn Tryd.prog 30 c_ref14_Blank = true := by kernel_rfl
theorem chk_ref14_Blanks : chkFn Tryd.prog 12 c_ref14_Blanks = true := by kernel_rfl
theorem chk_ref13_in : chkFn Tryd.prog 48 c_ref13_in = true := by kernel_rfl
theorem chk_ref13_Of : chkFn Tryd.prog 43 c_ref13_Of = true := by kernel_rfl
theorem chk_ref14_Cell : chkFn Tryd.prog 32 c_ref14_Cell = true := by kernel_rfl
theorem chk_ref14_May : chkFn Tryd.prog 14 c_ref14_May = true := by kernel_rfl
theorem chk_law14_LineMay : chkFn Tryd.prog 3 c_law14_LineMay = true := by kernel_rfl
theorem chk_line_Insert : chkFn Tryd.prog 15 c_line_Insert = true := by kernel_rfl
theorem chk_line_Delete : chkFn Tryd.prog 16 c_line_Delete = true := by kernel_rfl
theorem chk_law14_LineThere : chkFn Tryd.prog 4 c_law14_LineThere = true := by kernel_rfl
theorem chk_line_Erase : chkFn Tryd.prog 17 c_line_Erase = true := by kernel_rfl
theorem chk_line_Fit : chkFn Tryd.prog 18 c_line_Fit = true := by kernel_rfl
theorem chk_law14_fine : chkFn Tryd.prog 19 c_law14_fine = true := by kernel_rfl
theorem chk_ref14_Tear : chkFn Tryd.prog 36 c_ref14_Tear = true := by kernel_rfl
theorem chk_ref14_Erase : chkFn Tryd.prog 20 c_ref14_Erase = true := by kernel_rfl
theorem chk_ref14_Insert : chkFn Tryd.prog 21 c_ref14_Insert = true := by kernel_rfl
theorem chk_ref14_Delete : chkFn Tryd.prog 22 c_ref14_Delete = true := by kernel_rfl
theorem chk_ref14_Fit : chkFn Tryd.prog 23 c_ref14_Fit = true := by kernel_rfl
theorem chk_law14_LineEdits : chkFn Tryd.prog 5 c_law14_LineEdits = true := by kernel_rfl
theorem chk_line_Mark : chkFn Tryd.prog 37 c_line_Mark = true := by kernel_rfl
theorem chk_line_Tear : chkFn Tryd.prog 38 c_line_Tear = true := by kernel_rfl
theorem chk_law14_does : chkFn Tryd.prog 24 c_law14_does = true := by kernel_rfl
theorem chk_law14_LineWhole : chkFn Tryd.prog 6 c_law14_LineWhole = true := by kernel_rfl
theorem chk_law14_LineStays : chkFn Tryd.prog 7 c_law14_LineStays = true := by kernel_rfl
theorem mixFT : (Tryd.prog).follows .mixedOrders = true := by kernel_rfl
end Go.Proofs.YtfgggfejcgfneaaDoor
