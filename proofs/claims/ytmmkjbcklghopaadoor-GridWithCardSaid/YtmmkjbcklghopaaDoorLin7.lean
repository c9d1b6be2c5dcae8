/- What the program does with a line: Insert, Delete, Fit. Conditions: the table lies as laid. -/
import Derived.Test.YtmmkjbcklghopaaDoorLin6
set_option linter.unusedVariables false
set_option linter.unusedSimpArgs false
set_option linter.unusedSectionVars false
set_option maxRecDepth 20000
set_option maxHeartbeats 2000000
namespace Go.Proofs.YtmmkjbcklghopaaDoor
open Go
variable (G : Nat → Option (List AV)) (hG : G 0 = some tabC)
include hG
end Go.Proofs.YtmmkjbcklghopaaDoor
