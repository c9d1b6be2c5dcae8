/- GridScrolls. Conditions: none. -/
import Derived.Test.YtmmkjbcklghopaaDoorGr7
import Derived.Test.YtmmkjbcklghopaaDoorGr5
set_option linter.unusedVariables false
set_option linter.unusedSimpArgs false
set_option linter.unusedSectionVars false
set_option maxRecDepth 20000
set_option maxHeartbeats 4000000
namespace Go.Proofs.YtmmkjbcklghopaaDoor
open Go
theorem lo_fr {g : List Rw} (h : Lo g) : Lo (g.map fr) := ⟨by simpa using h.1, fun i hi => by
  have hi : i < g.length := by simpa using hi
  rw [rat_fr g hi]; exact h.2 i hi⟩
theorem scrollT_lo {g : List Rw} (hl : Lo g) (top bot n b f k : Int) : Lo (scrollT g top bot n b f k) := by
  unfold scrollT
  split
  · rename_i h
    rw [Bool.and_eq_true] at h
    have hM := (mayG_iff g).1 h.1
    split
    · exact lo_fr hl
    · refine ⟨by simpa using hl.1, fun i hi => ?_⟩
      have hi : i < g.length := by simpa using hi
      rw [rat_range _ hi]
      unfold scrC
      split
      · exact hl.2 i hi
      · split
        · simp; have := hM.w2; omega
        · exact hl.2 _ (by omega)
  · exact ⟨by simp, fun i hi => by simp at hi⟩
end Go.Proofs.YtmmkjbcklghopaaDoor
