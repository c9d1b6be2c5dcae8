/- The token chapter's known rows. Conditions: none. -/
import Derived.Test.YtfnonledcniojaaTok4
import Derived.KernelRfl
set_option linter.unusedVariables false
set_option linter.unusedSimpArgs false
set_option linter.unusedSectionVars false
namespace Go.Proofs.Ytfnonledcniojaa
open Go
variable (G : Nat → Option (List AV))
set_option maxRecDepth 100000 in
theorem known27_P : aP G FT n_law27_known [] = some (.bool true) := aP_fuel 60 (by kernel_rfl)
end Go.Proofs.Ytfnonledcniojaa
