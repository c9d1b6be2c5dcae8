/- Grids with blanks from one place to another one. Conditions: the table lies as laid. -/
import Derived.Test.YtmmkjbcklghopaaDoorGr6
import Derived.Test.YtmmkjbcklghopaaDoorLinB
set_option linter.unusedVariables false
set_option linter.unusedSimpArgs false
set_option linter.unusedSectionVars false
set_option maxRecDepth 20000
set_option maxHeartbeats 4000000
namespace Go.Proofs.YtmmkjbcklghopaaDoor
open Go
variable (G : Nat → Option (List AV)) (hG : G 0 = some tabC)
end Go.Proofs.YtmmkjbcklghopaaDoor
