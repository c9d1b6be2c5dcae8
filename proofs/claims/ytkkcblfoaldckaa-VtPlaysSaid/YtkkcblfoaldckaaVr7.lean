/- The document's parser: one code point, what is told; strings. Conditions: none. -/
import Derived.Test.YtkkcblfoaldckaaVr6
set_option linter.unusedVariables false
set_option linter.unusedSimpArgs false
set_option linter.unusedSectionVars false
set_option maxRecDepth 20000
set_option maxHeartbeats 4000000
namespace Go.Proofs.Ytkkcblfoaldckaa
open Go
variable (G : Nat → Option (List AV)) (g : Nat) (es : List (List AV)) (fl : Bool)
section
variable (H : List Int) (d : Int) (h1 : 2 ≤ H.length) (h2 : H.length ≤ 9000) (hd : H[1]? = some d)
include h1 h2 hd
-- strings
end
end Go.Proofs.Ytkkcblfoaldckaa
