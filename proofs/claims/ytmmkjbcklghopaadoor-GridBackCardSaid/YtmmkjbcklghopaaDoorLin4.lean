/- Blanks, and whether lines are alike. Conditions: none. -/
import Derived.Test.YtmmkjbcklghopaaDoorLin3
set_option linter.unusedVariables false
set_option linter.unusedSimpArgs false
set_option linter.unusedSectionVars false
set_option maxRecDepth 20000
set_option maxHeartbeats 2000000
namespace Go.Proofs.YtmmkjbcklghopaaDoor
open Go
variable (G : Nat → Option (List AV))
end Go.Proofs.YtmmkjbcklghopaaDoor
