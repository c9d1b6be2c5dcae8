/- What the parser does with a code point that counts as one. Conditions: none. -/
import Derived.Test.YtkkcblfoaldckaaVt4
import Derived.Test.YtkkcblfoaldckaaVt5
set_option linter.unusedVariables false
set_option linter.unusedSimpArgs false
set_option linter.unusedSectionVars false
set_option maxRecDepth 20000
set_option maxHeartbeats 2000000
namespace Go.Proofs.Ytkkcblfoaldckaa
open Go
variable (G : Nat → Option (List AV)) (o : ARow) (fl str told first void asked : Bool) (mark : Int) (s : ByteArray) (step pv tv : AV) (R : List ARow) (n : Nat)

end Go.Proofs.Ytkkcblfoaldckaa
