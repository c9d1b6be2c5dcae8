/- The seat's code is the program's. Conditions: none. -/
import Derived.Test.YtfnonledcniojaaM3
import Derived.Test.YtfnonledcniojaaCd
import Derived.Test.YtfnonledcniojaaRows
set_option linter.unusedVariables false
set_option linter.unusedSimpArgs false
set_option linter.unusedSectionVars false
namespace Go.Proofs.Ytfnonledcniojaa
open Go
theorem chk_token_number : chkFn Try.prog 61 c_token_number = true := by kernel_rfl
theorem chk_token_May : chkFn Try.prog 35 c_token_May = true := by kernel_rfl
theorem chk_slices_Index_int : chkFn Try.prog 70 c_slices_Index_int = true := by kernel_rfl
theorem chk_token_Place : chkFn Try.prog 33 c_token_Place = true := by kernel_rfl
theorem chk_slices_Clone_int : chkFn Try.prog 85 c_slices_Clone_int = true := by kernel_rfl
theorem chk_token_arbiter_on : chkFn Try.prog 86 c_token_arbiter_on = true := by kernel_rfl
theorem chk_token_change : chkFn Try.prog 62 c_token_change = true := by kernel_rfl
theorem chk_slices_Delete_int : chkFn Try.prog 65 c_slices_Delete_int = true := by kernel_rfl
theorem chk_token_Free_1 : chkFn Try.prog 64 c_token_Free_1 = true := by kernel_rfl
theorem chk_token_Free : chkFn Try.prog 31 c_token_Free = true := by kernel_rfl
theorem chk_slices_Contains_int : chkFn Try.prog 67 c_slices_Contains_int = true := by kernel_rfl
theorem chk_token_Keep_1 : chkFn Try.prog 66 c_token_Keep_1 = true := by kernel_rfl
theorem chk_slices_IndexFunc_int : chkFn Try.prog 87 c_slices_IndexFunc_int = true := by kernel_rfl
theorem chk_slices_DeleteFunc_int : chkFn Try.prog 69 c_slices_DeleteFunc_int = true := by kernel_rfl
theorem chk_token_Keep_2 : chkFn Try.prog 68 c_token_Keep_2 = true := by kernel_rfl
theorem chk_token_Keep : chkFn Try.prog 32 c_token_Keep = true := by kernel_rfl
theorem chk_ref27_Same : chkFn Try.prog 34 c_ref27_Same = true := by kernel_rfl
theorem chk_token_Ask_1 : chkFn Try.prog 63 c_token_Ask_1 = true := by kernel_rfl
theorem chk_token_Ask : chkFn Try.prog 30 c_token_Ask = true := by kernel_rfl
theorem chk_law27_asked : chkFn Try.prog 60 c_law27_asked = true := by kernel_rfl
theorem chk_law27_known : chkFn Try.prog 29 c_law27_known = true := by kernel_rfl
theorem chk_ref27_All : chkFn Try.prog 38 c_ref27_All = true := by kernel_rfl
theorem chk_ref27_Has : chkFn Try.prog 71 c_ref27_Has = true := by kernel_rfl
theorem chk_ref27_May : chkFn Try.prog 36 c_ref27_May = true := by kernel_rfl
theorem chk_ref27_Of : chkFn Try.prog 72 c_ref27_Of = true := by kernel_rfl
theorem chk_ref27_Keep : chkFn Try.prog 37 c_ref27_Keep = true := by kernel_rfl
theorem chk_ref27_Ask : chkFn Try.prog 39 c_ref27_Ask = true := by kernel_rfl
theorem chk_ref27_Free : chkFn Try.prog 40 c_ref27_Free = true := by kernel_rfl
theorem chk_law27_TokenEdits : chkFn Try.prog 7 c_law27_TokenEdits = true := by kernel_rfl
theorem mixFT : (Try.prog).follows .mixedOrders = true := by kernel_rfl
end Go.Proofs.Ytfnonledcniojaa
