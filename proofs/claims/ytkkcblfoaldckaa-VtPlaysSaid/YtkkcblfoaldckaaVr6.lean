/- The document's parser: one code point, something held. Conditions: none. -/
import Derived.Test.YtkkcblfoaldckaaVr5
set_option linter.unusedVariables false
set_option linter.unusedSimpArgs false
set_option linter.unusedSectionVars false
set_option maxRecDepth 20000
set_option maxHeartbeats 4000000
namespace Go.Proofs.Ytkkcblfoaldckaa
open Go
variable (G : Nat → Option (List AV)) (g : Nat) (es : List (List AV)) (fl : Bool)
-- 27 alone held
-- more held
end Go.Proofs.Ytkkcblfoaldckaa
