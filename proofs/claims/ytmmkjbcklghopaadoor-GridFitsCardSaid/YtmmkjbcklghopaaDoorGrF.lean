/- GridAll. Conditions: none. -/
import Derived.Test.YtmmkjbcklghopaaDoorGrE
import Derived.Test.YtmmkjbcklghopaaDoorGrD
import Derived.Test.YtmmkjbcklghopaaDoorGrA
import Derived.Test.YtmmkjbcklghopaaDoorLinF1
set_option linter.unusedVariables false
set_option linter.unusedSimpArgs false
set_option linter.unusedSectionVars false
set_option maxRecDepth 20000
set_option maxHeartbeats 4000000
namespace Go.Proofs.YtmmkjbcklghopaaDoor
open Go
theorem fitGT_lo {g : List Rw} (rows cols gone : Int) : Lo (fitGT g rows cols gone) := by
  unfold fitGT
  split
  · rename_i h
    obtain ⟨_, h1, h2, _⟩ := h
    obtain ⟨R, rfl, r1, r2⟩ := sideB_nat h1
    obtain ⟨W, rfl, w1, w2⟩ := sideB_nat h2
    rw [Int.toNat_natCast, Int.toNat_natCast]
    refine ⟨by simp; omega, fun i hi => ?_⟩
    have hi : i < R := by simpa using hi
    rw [rat_range _ hi]
    unfold fitC
    split
    · by_cases hm : mayL (rat g (i + gone.toNat)).1 = true
      · have := (fit_may hm (W : Int)).2 (by omega) (by omega)
        show (fitT _ _).length ≤ _
        omega
      · unfold fitT
        rw [if_neg (fun h => hm h.1)]; simp
    · simp; omega
  · exact ⟨by simp, fun i hi => by simp at hi⟩
end Go.Proofs.YtmmkjbcklghopaaDoor
