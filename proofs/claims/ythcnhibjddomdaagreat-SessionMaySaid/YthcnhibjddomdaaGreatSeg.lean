/- Sessions: plain laws: May stays. Conditions: as each statement says. -/
import Derived.Test.YthcnhibjddomdaaGreatSef
set_option linter.unusedVariables false
set_option linter.unusedSimpArgs false
set_option linter.unusedSectionVars false
namespace Go.Proofs.YthcnhibjddomdaaGreat
open Go
end Go.Proofs.YthcnhibjddomdaaGreat
