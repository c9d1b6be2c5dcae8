/- Sessions: with. Conditions: as each statement says. -/
import Derived.Test.YthcnhibjddomdaaSe8
set_option linter.unusedVariables false
set_option linter.unusedSimpArgs false
set_option linter.unusedSectionVars false
set_option maxRecDepth 20000
set_option maxHeartbeats 8000000
namespace Go.Proofs.Ythcnhibjddomdaa
open Go
variable (G : Nat → Option (List AV))
theorem okL_pop {q : List Pc} (h : okL q) (n : Int) : okL (popM q n).1 := by
  unfold popM
  split
  · refine ⟨by simp only; rw [cpQ_len, List.length_drop]; have := h.1; omega, fun x hx => ?_⟩
    obtain ⟨y, hy, rfl⟩ := List.mem_map.1 hx
    exact h.2 y (List.mem_of_mem_drop hy)
  · exact ⟨by simp, by simp⟩
end Go.Proofs.Ythcnhibjddomdaa
