/- Sessions: may a deed be; windows with another one. Conditions: as each statement says. -/
import Derived.Test.YthcnhibjddomdaaGreatSeb
set_option linter.unusedVariables false
set_option linter.unusedSimpArgs false
set_option linter.unusedSectionVars false
set_option maxRecDepth 20000
set_option maxHeartbeats 8000000
namespace Go.Proofs.YthcnhibjddomdaaGreat
open Go
variable (G : Nat → Option (List AV))
end Go.Proofs.YthcnhibjddomdaaGreat
