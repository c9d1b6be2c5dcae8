/- Least windows: plain laws; the chapter's known rows. Conditions: as each statement says. -/
import Derived.Test.YthcnhibjddomdaaGreatSz2
import Derived.KernelRfl
set_option linter.unusedVariables false
set_option linter.unusedSimpArgs false
set_option linter.unusedSectionVars false
namespace Go.Proofs.YthcnhibjddomdaaGreat
open Go
variable (G : Nat → Option (List AV))
end Go.Proofs.YthcnhibjddomdaaGreat
