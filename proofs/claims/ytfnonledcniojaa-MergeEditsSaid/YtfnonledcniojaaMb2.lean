/- MergeBytes: who and what are filled. Conditions: none. -/
import Derived.Test.YtfnonledcniojaaMg3
set_option linter.unusedVariables false
set_option linter.unusedSimpArgs false
set_option linter.unusedSectionVars false
set_option maxRecDepth 20000
set_option maxHeartbeats 4000000
namespace Go.Proofs.Ytfnonledcniojaa
open Go
variable (G : Nat → Option (List AV))
end Go.Proofs.Ytfnonledcniojaa
