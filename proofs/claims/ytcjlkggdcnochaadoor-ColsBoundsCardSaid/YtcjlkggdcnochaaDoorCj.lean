/- The seat's code is the program's. Conditions: none. -/
import Derived.Test.YtcjlkggdcnochaaDoorM3
import Derived.Test.YtcjlkggdcnochaaDoorCd
import Derived.Test.YtcjlkggdcnochaaDoorRows
set_option linter.unusedVariables false
set_option linter.unusedSimpArgs false
set_option linter.unusedSectionVars false
namespace Go.Proofs.YtcjlkggdcnochaaDoor
open Go
theorem chk_sort_Search : chkFn Tryd.prog 16 c_sort_Search = true := by kernel_rfl
theorem chk_cols_Of_1 : chkFn Tryd.prog 17 c_cols_Of_1 = true := by kernel_rfl
theorem chk_cols_Of : chkFn Tryd.prog 9 c_cols_Of = true := by kernel_rfl
theorem chk_slices_Clone_rune : chkFn Tryd.prog 19 c_slices_Clone_rune = true := by kernel_rfl
theorem chk_cols_Cut : chkFn Tryd.prog 12 c_cols_Cut = true := by kernel_rfl
theorem chk_ref13_Same : chkFn Tryd.prog 15 c_ref13_Same = true := by kernel_rfl
theorem chk_law13_known : chkFn Tryd.prog 8 c_law13_known = true := by kernel_rfl
theorem chk_ref13_in : chkFn Tryd.prog 18 c_ref13_in = true := by kernel_rfl
theorem chk_ref13_Of : chkFn Tryd.prog 10 c_ref13_Of = true := by kernel_rfl
theorem chk_law13_ColsBounds : chkFn Tryd.prog 4 c_law13_ColsBounds = true := by kernel_rfl
theorem mixFT : (Tryd.prog).follows .mixedOrders = true := by kernel_rfl
end Go.Proofs.YtcjlkggdcnochaaDoor
