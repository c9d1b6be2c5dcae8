/- Rows that go up and down, twice; GridTwice, GridBack. Conditions: none. -/
import Derived.Test.YtmmkjbcklghopaaDoorGr8
import Derived.Test.YtmmkjbcklghopaaDoorGr9
set_option linter.unusedVariables false
set_option linter.unusedSimpArgs false
set_option linter.unusedSectionVars false
set_option maxRecDepth 20000
set_option maxHeartbeats 4000000
namespace Go.Proofs.YtmmkjbcklghopaaDoor
open Go
end Go.Proofs.YtmmkjbcklghopaaDoor
