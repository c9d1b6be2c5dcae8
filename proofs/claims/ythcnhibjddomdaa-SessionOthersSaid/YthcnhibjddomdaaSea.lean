/- Sessions: with refused; Join. Conditions: as each statement says. -/
import Derived.Test.YthcnhibjddomdaaSe9
set_option linter.unusedVariables false
set_option linter.unusedSimpArgs false
set_option linter.unusedSectionVars false
set_option maxRecDepth 20000
set_option maxHeartbeats 8000000
namespace Go.Proofs.Ythcnhibjddomdaa
open Go
variable (G : Nat → Option (List AV))
/-- The empty session. -/
def zS : Ses := ⟨[], 0, [], [], fun _ => (0, 0), 0, 0, fun _ => 0, false, false, false⟩
end Go.Proofs.Ythcnhibjddomdaa
