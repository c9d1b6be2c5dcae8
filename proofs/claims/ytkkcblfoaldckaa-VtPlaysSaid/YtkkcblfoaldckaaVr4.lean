/- The document's parser: a string, told. Conditions: none. -/
import Derived.Test.YtkkcblfoaldckaaVr3
set_option linter.unusedVariables false
set_option linter.unusedSimpArgs false
set_option linter.unusedSectionVars false
set_option maxRecDepth 20000
set_option maxHeartbeats 2000000
namespace Go.Proofs.Ytkkcblfoaldckaa
open Go
variable (G : Nat → Option (List AV)) (g : Nat) (es : List (List AV)) (fl : Bool)
def isStr (d : Int) : Bool := decide (d = 93) || decide (d = 80) || decide (d = 88) || decide (d = 94) || decide (d = 95)
end Go.Proofs.Ytkkcblfoaldckaa
