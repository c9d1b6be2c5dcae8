/- The document's parser: one code point. Conditions: none. -/
import Derived.Test.YtkkcblfoaldckaaVr4
set_option linter.unusedVariables false
set_option linter.unusedSimpArgs false
set_option linter.unusedSectionVars false
set_option maxRecDepth 20000
set_option maxHeartbeats 4000000
namespace Go.Proofs.Ytkkcblfoaldckaa
open Go
variable (G : Nat → Option (List AV)) (g : Nat) (es : List (List AV)) (fl : Bool)
abbrev heldT (H : List Int) : List Int := (H.take (min H.length 66)).drop 2
-- one code point, nothing held
-- 27 alone held
end Go.Proofs.Ytkkcblfoaldckaa
