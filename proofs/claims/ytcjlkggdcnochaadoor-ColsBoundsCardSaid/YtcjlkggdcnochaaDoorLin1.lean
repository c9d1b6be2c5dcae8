/- What cols.Of comes to, over the table as laid. Conditions: the table lies as laid. -/
import Derived.Test.YtcjlkggdcnochaaDoorCd
import Derived.Test.YtcjlkggdcnochaaDoorM3
set_option linter.unusedVariables false
set_option linter.unusedSimpArgs false
set_option linter.unusedSectionVars false
set_option maxRecDepth 20000
set_option maxHeartbeats 1000000
namespace Go.Proofs.YtcjlkggdcnochaaDoor
open Go
variable (G : Nat → Option (List AV))
/-- The table's cells. -/
def tabL : List Int := [768, 879, 0, 1155, 1161, 0, 1425, 1469, 0, 1552, 1562, 0, 1611, 1631, 0, 4352, 4447, 2, 6832, 6911, 0, 7616, 7679, 0, 8203, 8207, 0, 8400, 8447, 0, 11904, 12350, 2, 12353, 42191, 2, 44032, 55203, 2, 63744, 64255, 2, 65024, 65039, 0, 65056, 65071, 0, 65072, 65135, 2, 65280, 65376, 2, 65504, 65510, 2, 127744, 128591, 2, 129280, 129535, 2, 131072, 262141, 2]
def tabC : List AV := tabL.map fun n => .int .i32 n
theorem tab_at : ∀ i : Nat, i < 66 → tabC[i]? = some (.int .i32 (tabL.getD i 0)) := by
  intro i hi
  have : i < tabL.length := hi
  simp [tabC, this, List.getD]
end Go.Proofs.YtcjlkggdcnochaaDoor
