/- What Put tells and makes of the parser. Conditions: none. -/
import Derived.Test.YtkkcblfoaldckaaVt9
set_option linter.unusedVariables false
set_option linter.unusedSimpArgs false
set_option linter.unusedSectionVars false
set_option maxRecDepth 20000
set_option maxHeartbeats 4000000
namespace Go.Proofs.Ytkkcblfoaldckaa
open Go
variable (G : Nat → Option (List AV)) (o p a : ARow) (fl : Bool) (R hh : List ARow)
end Go.Proofs.Ytkkcblfoaldckaa
