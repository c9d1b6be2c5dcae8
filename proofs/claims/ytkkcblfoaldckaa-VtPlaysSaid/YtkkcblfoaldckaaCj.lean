/- The seat's code is the program's. Conditions: none. -/
import Derived.Test.YtkkcblfoaldckaaM3
import Derived.Test.YtkkcblfoaldckaaCd
import Derived.Test.YtkkcblfoaldckaaRows
set_option linter.unusedVariables false
set_option linter.unusedSimpArgs false
set_option linter.unusedSectionVars false
namespace Go.Proofs.Ytkkcblfoaldckaa
open Go
theorem chk_ref11_Same : chkFn Try.prog 19 c_ref11_Same = true := by kernel_rfl
theorem chk_ref11_All : chkFn Try.prog 10 c_ref11_All = true := by kernel_rfl
theorem chk_vt_New : chkFn Try.prog 13 c_vt_New = true := by kernel_rfl
theorem chk_vt_point : chkFn Try.prog 20 c_vt_point = true := by kernel_rfl
theorem chk_vt_ground : chkFn Try.prog 25 c_vt_ground = true := by kernel_rfl
theorem chk_slices_Clone_rune : chkFn Try.prog 23 c_slices_Clone_rune = true := by kernel_rfl
theorem chk_vt_Parser_end : chkFn Try.prog 26 c_vt_Parser_end = true := by kernel_rfl
theorem chk_vt_Parser_between : chkFn Try.prog 33 c_vt_Parser_between = true := by kernel_rfl
theorem chk_vt_Parser_param : chkFn Try.prog 36 c_vt_Parser_param = true := by kernel_rfl
theorem chk_vt_sequence : chkFn Try.prog 34 c_vt_sequence = true := by kernel_rfl
theorem chk_vt_text : chkFn Try.prog 35 c_vt_text = true := by kernel_rfl
theorem chk_vt_escape : chkFn Try.prog 27 c_vt_escape = true := by kernel_rfl
theorem chk_vt_Parser_one : chkFn Try.prog 21 c_vt_Parser_one = true := by kernel_rfl
theorem chk_vt_Parser_Put : chkFn Try.prog 14 c_vt_Parser_Put = true := by kernel_rfl
theorem chk_vt_Parse : chkFn Try.prog 11 c_vt_Parse = true := by kernel_rfl
theorem chk_law11_known : chkFn Try.prog 9 c_law11_known = true := by kernel_rfl
theorem chk_vt_Parser_Idle : chkFn Try.prog 15 c_vt_Parser_Idle = true := by kernel_rfl
theorem chk_slices_Clone_int : chkFn Try.prog 22 c_slices_Clone_int = true := by kernel_rfl
theorem chk_vt_Parser_Copy : chkFn Try.prog 17 c_vt_Parser_Copy = true := by kernel_rfl
theorem chk_ref11_Parser_stringed : chkFn Try.prog 30 c_ref11_Parser_stringed = true := by kernel_rfl
theorem chk_ref11_Parser_told : chkFn Try.prog 28 c_ref11_Parser_told = true := by kernel_rfl
theorem chk_ref11_word : chkFn Try.prog 29 c_ref11_word = true := by kernel_rfl
theorem chk_ref11_csi : chkFn Try.prog 31 c_ref11_csi = true := by kernel_rfl
theorem chk_ref11_esc : chkFn Try.prog 32 c_ref11_esc = true := by kernel_rfl
theorem chk_ref11_Parser_one : chkFn Try.prog 24 c_ref11_Parser_one = true := by kernel_rfl
theorem chk_ref11_Parser_Put : chkFn Try.prog 18 c_ref11_Parser_Put = true := by kernel_rfl
theorem chk_law11_VtPlays : chkFn Try.prog 7 c_law11_VtPlays = true := by kernel_rfl
theorem mixFT : (Try.prog).follows .mixedOrders = true := by kernel_rfl
end Go.Proofs.Ytkkcblfoaldckaa
