/- MergeBytes: where the rows lie; all bytes as pairs. Conditions: as the statements say. -/
import Derived.Test.YtfnonledcniojaaMb4
set_option linter.unusedVariables false
set_option linter.unusedSimpArgs false
set_option linter.unusedSectionVars false
namespace Go.Proofs.Ytfnonledcniojaa
open Go Go.RowKit
end Go.Proofs.Ytfnonledcniojaa
