/- What the parser's steps come to: a control sequence, whole. Conditions: none. -/
import Derived.Test.YtkkcblfoaldckaaVt3
set_option linter.unusedVariables false
set_option linter.unusedSimpArgs false
set_option linter.unusedSectionVars false
set_option maxRecDepth 20000
set_option maxHeartbeats 2000000
namespace Go.Proofs.Ytkkcblfoaldckaa
open Go
variable (G : Nat → Option (List AV)) (o : ARow) (fl first void : Bool) (mark : Int) (s : ByteArray)

end Go.Proofs.Ytkkcblfoaldckaa
