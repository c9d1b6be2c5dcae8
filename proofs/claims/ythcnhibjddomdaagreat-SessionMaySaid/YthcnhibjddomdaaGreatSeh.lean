/- Sessions: known rows. Conditions: none. -/
import Derived.Test.YthcnhibjddomdaaGreatFn
import Derived.Test.YthcnhibjddomdaaGreatSzm
import Derived.KernelRfl
set_option linter.unusedVariables false
set_option linter.unusedSimpArgs false
set_option linter.unusedSectionVars false
namespace Go.Proofs.YthcnhibjddomdaaGreat
open Go
variable (G : Nat → Option (List AV))
set_option maxRecDepth 100000 in
theorem known30_P : aP G FT n_law30_known [] = some (.bool true) := aP_fuel 80 (by kernel_rfl)
end Go.Proofs.YthcnhibjddomdaaGreat
