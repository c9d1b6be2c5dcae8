/- The document's parser: Put, from any state. Conditions: none. -/
import Derived.Test.YtkkcblfoaldckaaVr9
set_option linter.unusedVariables false
set_option linter.unusedSimpArgs false
set_option linter.unusedSectionVars false
set_option maxRecDepth 20000
set_option maxHeartbeats 4000000
namespace Go.Proofs.Ytkkcblfoaldckaa
open Go
variable (G : Nat → Option (List AV)) (g : Nat) (es : List (List AV)) (fl : Bool) (hh : List ARow)
end Go.Proofs.Ytkkcblfoaldckaa
