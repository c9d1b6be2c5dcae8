/- The chapter's known rows. Conditions: none. -/
import Derived.Test.YtkkcblfoaldckaaVtC
import Derived.KernelRfl
set_option linter.unusedVariables false
set_option linter.unusedSimpArgs false
set_option linter.unusedSectionVars false
namespace Go.Proofs.Ytkkcblfoaldckaa
open Go
variable (G : Nat → Option (List AV))
set_option maxRecDepth 100000 in
theorem known11_P : aP G FT n_law11_known [] = some (.bool true) := aP_fuel 60 (by kernel_rfl)
end Go.Proofs.Ytkkcblfoaldckaa
