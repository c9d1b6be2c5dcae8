/- Sessions: are two the same? Conditions: as each statement says. -/
import Derived.Test.YthcnhibjddomdaaSea
set_option linter.unusedVariables false
set_option linter.unusedSimpArgs false
set_option linter.unusedSectionVars false
set_option maxRecDepth 20000
set_option maxHeartbeats 8000000
namespace Go.Proofs.Ythcnhibjddomdaa
open Go
variable (G : Nat → Option (List AV))
/-! ### Pieces -/
/-! ### Windows, counts -/
end Go.Proofs.Ythcnhibjddomdaa
