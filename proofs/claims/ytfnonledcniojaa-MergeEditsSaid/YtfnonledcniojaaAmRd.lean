/- The small machine's code within a round of a range over a function: regions in the text's order, branches, blocks. Conditions: none. -/
import Derived.Test.YtfnonledcniojaaM3
import Derived.CallsIn
import Derived.ControlIn
import Derived.RangeFuncCalls
set_option linter.unusedVariables false
set_option linter.unusedSimpArgs false
set_option linter.unusedSectionVars false
namespace Go.Proofs.Ytfnonledcniojaa
open Go
variable [FrB]
end Go.Proofs.Ytfnonledcniojaa
