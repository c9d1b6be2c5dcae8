/- The seat's code is the program's. Conditions: none. -/
import Derived.Test.YtfnonledcniojaaM3
import Derived.Test.YtfnonledcniojaaCd
import Derived.Test.YtfnonledcniojaaRows
set_option linter.unusedVariables false
set_option linter.unusedSimpArgs false
set_option linter.unusedSectionVars false
namespace Go.Proofs.Ytfnonledcniojaa
open Go
theorem chk_slices_IndexFunc_Member : chkFn Try.prog 90 c_slices_IndexFunc_Member = true := by kernel_rfl
theorem chk_slices_ContainsFunc_Member : chkFn Try.prog 75 c_slices_ContainsFunc_Member = true := by kernel_rfl
theorem chk_roster_role : chkFn Try.prog 77 c_roster_role = true := by kernel_rfl
theorem chk_roster_May_1 : chkFn Try.prog 76 c_roster_May_1 = true := by kernel_rfl
theorem chk_roster_May : chkFn Try.prog 46 c_roster_May = true := by kernel_rfl
theorem chk_slices_BinarySearchFunc_Member_int : chkFn Try.prog 88 c_slices_BinarySearchFunc_Member_int = true := by kernel_rfl
theorem chk_roster_place_1 : chkFn Try.prog 89 c_roster_place_1 = true := by kernel_rfl
theorem chk_roster_place : chkFn Try.prog 74 c_roster_place = true := by kernel_rfl
theorem chk_roster_Find : chkFn Try.prog 44 c_roster_Find = true := by kernel_rfl
theorem chk_roster_Writers : chkFn Try.prog 47 c_roster_Writers = true := by kernel_rfl
theorem chk_slices_Insert_Member : chkFn Try.prog 78 c_slices_Insert_Member = true := by kernel_rfl
theorem chk_slices_Clone_Member : chkFn Try.prog 79 c_slices_Clone_Member = true := by kernel_rfl
theorem chk_roster_Join : chkFn Try.prog 48 c_roster_Join = true := by kernel_rfl
theorem chk_slices_DeleteFunc_Member : chkFn Try.prog 80 c_slices_DeleteFunc_Member = true := by kernel_rfl
theorem chk_roster_Leave_1 : chkFn Try.prog 81 c_roster_Leave_1 = true := by kernel_rfl
theorem chk_roster_Leave : chkFn Try.prog 49 c_roster_Leave = true := by kernel_rfl
theorem chk_law26_known : chkFn Try.prog 42 c_law26_known = true := by kernel_rfl
theorem chk_roster_Change : chkFn Try.prog 50 c_roster_Change = true := by kernel_rfl
theorem chk_law26_RosterAlone : chkFn Try.prog 12 c_law26_RosterAlone = true := by kernel_rfl
theorem mixFT : (Try.prog).follows .mixedOrders = true := by kernel_rfl
end Go.Proofs.Ytfnonledcniojaa
