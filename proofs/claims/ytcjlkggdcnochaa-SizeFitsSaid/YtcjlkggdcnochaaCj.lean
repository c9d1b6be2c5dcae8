/- The seat's code is the program's. Conditions: none. -/
import Derived.Test.YtcjlkggdcnochaaM3
import Derived.Test.YtcjlkggdcnochaaCd
import Derived.Test.YtcjlkggdcnochaaRows
set_option linter.unusedVariables false
set_option linter.unusedSimpArgs false
set_option linter.unusedSectionVars false
namespace Go.Proofs.Ytcjlkggdcnochaa
open Go
theorem chk_size_side : chkFn Try.prog 17 c_size_side = true := by kernel_rfl
theorem chk_size_window : chkFn Try.prog 16 c_size_window = true := by kernel_rfl
theorem chk_size_May : chkFn Try.prog 10 c_size_May = true := by kernel_rfl
theorem chk_size_member : chkFn Try.prog 14 c_size_member = true := by kernel_rfl
theorem chk_size_Least : chkFn Try.prog 8 c_size_Least = true := by kernel_rfl
theorem chk_size_Set : chkFn Try.prog 11 c_size_Set = true := by kernel_rfl
theorem chk_law29_known : chkFn Try.prog 7 c_law29_known = true := by kernel_rfl
theorem chk_law29_SizeFits : chkFn Try.prog 4 c_law29_SizeFits = true := by kernel_rfl
theorem mixFT : (Try.prog).follows .mixedOrders = true := by kernel_rfl
end Go.Proofs.Ytcjlkggdcnochaa
