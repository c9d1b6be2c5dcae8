/- RosterBack: the law. Conditions: as each statement says. -/
import Derived.Test.YtfnonledcniojaaRos6
set_option linter.unusedVariables false
set_option linter.unusedSimpArgs false
set_option linter.unusedSectionVars false
set_option maxRecDepth 20000
set_option maxHeartbeats 4000000
namespace Go.Proofs.Ytfnonledcniojaa
open Go
variable (G : Nat → Option (List AV))
theorem roleB_iff (r : Int) : roleB r = true ↔ r = 1 ∨ r = 2 := by simp [roleB]
end Go.Proofs.Ytfnonledcniojaa
