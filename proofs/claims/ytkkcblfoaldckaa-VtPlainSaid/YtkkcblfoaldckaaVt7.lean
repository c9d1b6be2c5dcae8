/- The parser's states; what a code point that counts as one makes of each. Conditions: none. -/
import Derived.Test.YtkkcblfoaldckaaVt6
set_option linter.unusedVariables false
set_option linter.unusedSimpArgs false
set_option linter.unusedSectionVars false
set_option maxRecDepth 20000
set_option maxHeartbeats 2000000
namespace Go.Proofs.Ytkkcblfoaldckaa
open Go
variable (o p a : ARow) (R h : List ARow)
end Go.Proofs.Ytkkcblfoaldckaa
