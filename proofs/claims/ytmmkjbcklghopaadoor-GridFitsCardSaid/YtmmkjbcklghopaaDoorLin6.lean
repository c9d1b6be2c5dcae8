/- What the program does with a line: Tear, Erase, Insert. Conditions: the table lies as laid. -/
import Derived.Test.YtmmkjbcklghopaaDoorLin5
set_option linter.unusedVariables false
set_option linter.unusedSimpArgs false
set_option linter.unusedSectionVars false
set_option maxRecDepth 20000
set_option maxHeartbeats 2000000
namespace Go.Proofs.YtmmkjbcklghopaaDoor
open Go
theorem mayL_len {l : List Cl} (h : mayL l = true) : l.length ≤ 1000 := by
  unfold mayL at h
  simp at h
  exact h.1
variable (G : Nat → Option (List AV)) (hG : G 0 = some tabC)
include hG
end Go.Proofs.YtmmkjbcklghopaaDoor
