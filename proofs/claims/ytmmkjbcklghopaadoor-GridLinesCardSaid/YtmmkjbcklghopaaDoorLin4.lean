/- Blanks, and whether lines are alike. Conditions: none. -/
import Derived.Test.YtmmkjbcklghopaaDoorLin3
set_option linter.unusedVariables false
set_option linter.unusedSimpArgs false
set_option linter.unusedSectionVars false
set_option maxRecDepth 20000
set_option maxHeartbeats 2000000
namespace Go.Proofs.YtmmkjbcklghopaaDoor
open Go
variable (G : Nat → Option (List AV))
theorem alike_iff (x y : List Cl) (he : y.length = x.length) : allN (fun i => decide (at' x i = at' y i)) x.length 0 = decide (x = y) := by
  rw [Bool.eq_iff_iff, allN_iff]
  simp only [Nat.zero_le, true_implies, Nat.zero_add, decide_eq_true_eq]
  refine ⟨fun h => List.ext_getElem he.symm fun i h1 h2 => ?_, fun h => by subst h; intros; rfl⟩
  have := h i h1
  rwa [at_eq h1, at_eq h2] at this
end Go.Proofs.YtmmkjbcklghopaaDoor
