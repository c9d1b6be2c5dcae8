/- The seat's code is the program's. Conditions: none. -/
import Derived.Test.YtfnonledcniojaaM3
import Derived.Test.YtfnonledcniojaaCd
import Derived.Test.YtfnonledcniojaaRows
set_option linter.unusedVariables false
set_option linter.unusedSimpArgs false
set_option linter.unusedSectionVars false
namespace Go.Proofs.Ytfnonledcniojaa
open Go
theorem chk_merge_piece : chkFn Try.prog 56 c_merge_piece = true := by kernel_rfl
theorem chk_merge_May : chkFn Try.prog 20 c_merge_May = true := by kernel_rfl
theorem chk_bytes_Clone : chkFn Try.prog 83 c_bytes_Clone = true := by kernel_rfl
theorem chk_merge_copied : chkFn Try.prog 55 c_merge_copied = true := by kernel_rfl
theorem chk_merge_Push : chkFn Try.prog 17 c_merge_Push = true := by kernel_rfl
theorem chk_merge_Pop : chkFn Try.prog 18 c_merge_Pop = true := by kernel_rfl
theorem chk_slices_IndexFunc_Typed : chkFn Try.prog 84 c_slices_IndexFunc_Typed = true := by kernel_rfl
theorem chk_slices_DeleteFunc_Typed : chkFn Try.prog 57 c_slices_DeleteFunc_Typed = true := by kernel_rfl
theorem chk_merge_Drop_1 : chkFn Try.prog 58 c_merge_Drop_1 = true := by kernel_rfl
theorem chk_merge_Drop : chkFn Try.prog 19 c_merge_Drop = true := by kernel_rfl
theorem chk_law28_known : chkFn Try.prog 14 c_law28_known = true := by kernel_rfl
theorem chk_law28_great : chkFn Try.prog 15 c_law28_great = true := by kernel_rfl
theorem chk_ref28_Copy : chkFn Try.prog 16 c_ref28_Copy = true := by kernel_rfl
theorem chk_ref28_Size : chkFn Try.prog 25 c_ref28_Size = true := by kernel_rfl
theorem chk_ref28_Piece : chkFn Try.prog 27 c_ref28_Piece = true := by kernel_rfl
theorem chk_ref28_May : chkFn Try.prog 21 c_ref28_May = true := by kernel_rfl
theorem chk_ref28_Same : chkFn Try.prog 22 c_ref28_Same = true := by kernel_rfl
theorem chk_ref28_First : chkFn Try.prog 24 c_ref28_First = true := by kernel_rfl
theorem chk_ref28_Drop : chkFn Try.prog 26 c_ref28_Drop = true := by kernel_rfl
theorem chk_law28_MergeEdits : chkFn Try.prog 3 c_law28_MergeEdits = true := by kernel_rfl
theorem mixFT : (Try.prog).follows .mixedOrders = true := by kernel_rfl
end Go.Proofs.Ytfnonledcniojaa
