/- RosterEdits, RosterAsks: the laws. Conditions: as each statement says. -/
import Derived.Test.YtfnonledcniojaaRos5
import Derived.Test.YtfnonledcniojaaM3
set_option linter.unusedVariables false
set_option linter.unusedSimpArgs false
set_option linter.unusedSectionVars false
set_option maxRecDepth 20000
set_option maxHeartbeats 4000000
namespace Go.Proofs.Ytfnonledcniojaa
open Go
variable (G : Nat → Option (List AV))
theorem withM_len (l : List (Int × Int)) (id r : Int) : (withM l id r).length < 1000000 := by have := ros_len (setR (roleOf l) id r) 8 1; unfold withM; omega
/-! ### RosterAsks -/
end Go.Proofs.Ytfnonledcniojaa
