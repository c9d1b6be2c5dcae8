/- The seat's code is the program's. Conditions: none. -/
import Derived.Test.YtmmkjbcklghopaaDoorM3
import Derived.Test.YtmmkjbcklghopaaDoorCd
import Derived.Test.YtmmkjbcklghopaaDoorRows
set_option linter.unusedVariables false
set_option linter.unusedSimpArgs false
set_option linter.unusedSectionVars false
namespace Go.Proofs.YtmmkjbcklghopaaDoor
open Go
theorem chk_grid_side : chkFn Tryd.prog 51 c_grid_side = true := by kernel_rfl
theorem chk_slices_IndexFunc_LCell : chkFn Tryd.prog 72 c_slices_IndexFunc_LCell = true := by kernel_rfl
theorem chk_slices_ContainsFunc_LCell : chkFn Tryd.prog 52 c_slices_ContainsFunc_LCell = true := by kernel_rfl
theorem chk_pen_May_1 : chkFn Tryd.prog 67 c_pen_May_1 = true := by kernel_rfl
theorem chk_pen_May : chkFn Tryd.prog 41 c_pen_May = true := by kernel_rfl
theorem chk_sort_Search : chkFn Tryd.prog 74 c_sort_Search = true := by kernel_rfl
theorem chk_cols_Of_1 : chkFn Tryd.prog 75 c_cols_Of_1 = true := by kernel_rfl
theorem chk_cols_Of : chkFn Tryd.prog 58 c_cols_Of = true := by kernel_rfl
theorem chk_line_marked : chkFn Tryd.prog 77 c_line_marked = true := by kernel_rfl
theorem chk_line_may : chkFn Tryd.prog 73 c_line_may = true := by kernel_rfl
theorem chk_line_May : chkFn Tryd.prog 54 c_line_May = true := by kernel_rfl
theorem chk_grid_May_1 : chkFn Tryd.prog 53 c_grid_May_1 = true := by kernel_rfl
theorem chk_grid_May : chkFn Tryd.prog 22 c_grid_May = true := by kernel_rfl
theorem chk_slices_Clone_Cell : chkFn Tryd.prog 56 c_slices_Clone_Cell = true := by kernel_rfl
theorem chk_grid_copied : chkFn Tryd.prog 42 c_grid_copied = true := by kernel_rfl
theorem chk_math_bits_Mul32 : chkFn Tryd.prog 78 c_math_bits_Mul32 = true := by kernel_rfl
theorem chk_math_bits_Mul64 : chkFn Tryd.prog 79 c_math_bits_Mul64 = true := by kernel_rfl
theorem chk_math_bits_Mul : chkFn Tryd.prog 76 c_math_bits_Mul = true := by kernel_rfl
theorem chk_slices_Repeat_Cell : chkFn Tryd.prog 68 c_slices_Repeat_Cell = true := by kernel_rfl
theorem chk_line_blank : chkFn Tryd.prog 69 c_line_blank = true := by kernel_rfl
theorem chk_line_Blank : chkFn Tryd.prog 43 c_line_Blank = true := by kernel_rfl
theorem chk_grid_Scroll : chkFn Tryd.prog 16 c_grid_Scroll = true := by kernel_rfl
theorem chk_ref14_Same : chkFn Tryd.prog 45 c_ref14_Same = true := by kernel_rfl
theorem chk_ref15_Same : chkFn Tryd.prog 18 c_ref15_Same = true := by kernel_rfl
theorem chk_grid_Erase_1 : chkFn Tryd.prog 47 c_grid_Erase_1 = true := by kernel_rfl
theorem chk_line_fine : chkFn Tryd.prog 57 c_line_fine = true := by kernel_rfl
theorem chk_line_torn : chkFn Tryd.prog 59 c_line_torn = true := by kernel_rfl
theorem chk_line_Erase : chkFn Tryd.prog 48 c_line_Erase = true := by kernel_rfl
theorem chk_grid_Erase : chkFn Tryd.prog 20 c_grid_Erase = true := by kernel_rfl
theorem chk_law15_abc : chkFn Tryd.prog 40 c_law15_abc = true := by kernel_rfl
theorem chk_law15_known : chkFn Tryd.prog 12 c_law15_known = true := by kernel_rfl
theorem chk_law15_great : chkFn Tryd.prog 13 c_law15_great = true := by kernel_rfl
theorem chk_ref15_Copy : chkFn Tryd.prog 14 c_ref15_Copy = true := by kernel_rfl
theorem chk_ref15_Side : chkFn Tryd.prog 23 c_ref15_Side = true := by kernel_rfl
theorem chk_ref13_in : chkFn Tryd.prog 61 c_ref13_in = true := by kernel_rfl
theorem chk_ref13_Of : chkFn Tryd.prog 33 c_ref13_Of = true := by kernel_rfl
theorem chk_ref12_May : chkFn Tryd.prog 55 c_ref12_May = true := by kernel_rfl
theorem chk_ref14_Cell : chkFn Tryd.prog 71 c_ref14_Cell = true := by kernel_rfl
theorem chk_ref14_May : chkFn Tryd.prog 46 c_ref14_May = true := by kernel_rfl
theorem chk_ref15_May : chkFn Tryd.prog 19 c_ref15_May = true := by kernel_rfl
theorem chk_ref14_Pen : chkFn Tryd.prog 24 c_ref14_Pen = true := by kernel_rfl
theorem chk_law15_fine : chkFn Tryd.prog 15 c_law15_fine = true := by kernel_rfl
theorem chk_grid_With : chkFn Tryd.prog 27 c_grid_With = true := by kernel_rfl
theorem chk_law15_GridWith_1 : chkFn Tryd.prog 28 c_law15_GridWith_1 = true := by kernel_rfl
theorem chk_ref15_With : chkFn Tryd.prog 29 c_ref15_With = true := by kernel_rfl
theorem chk_line_Put : chkFn Tryd.prog 31 c_line_Put = true := by kernel_rfl
theorem chk_law15_GridWith_2 : chkFn Tryd.prog 30 c_law15_GridWith_2 = true := by kernel_rfl
theorem chk_ref14_Blank : chkFn Tryd.prog 70 c_ref14_Blank = true := by kernel_rfl
theorem chk_ref14_Tear : chkFn Tryd.prog 60 c_ref14_Tear = true := by kernel_rfl
theorem chk_ref14_Put : chkFn Tryd.prog 32 c_ref14_Put = true := by kernel_rfl
theorem chk_law15_GridWith : chkFn Tryd.prog 7 c_law15_GridWith = true := by kernel_rfl
theorem mixFT : (Tryd.prog).follows .mixedOrders = true := by kernel_rfl
end Go.Proofs.YtmmkjbcklghopaaDoor
