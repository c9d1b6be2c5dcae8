/- Grids: blanks, the document's copies, whether two are alike, how great they are. Conditions: the table lies as laid. -/
import Derived.Test.YtmmkjbcklghopaaDoorGr2
set_option linter.unusedVariables false
set_option linter.unusedSimpArgs false
set_option linter.unusedSectionVars false
set_option maxRecDepth 20000
set_option maxHeartbeats 2000000
namespace Go.Proofs.YtmmkjbcklghopaaDoor
open Go
variable (G : Nat → Option (List AV)) (hG : G 0 = some tabC)
theorem sideB_nat {n : Int} (h : sideB n = true) : ∃ m : Nat, n = m ∧ 1 ≤ m ∧ m ≤ 200 := by
  simp only [sideB, Bool.and_eq_true, decide_eq_true_eq] at h
  exact ⟨n.toNat, by omega, by omega, by omega⟩
theorem galike_iff (x y : List Rw) (he : y.length = x.length) : allN (fun i => decide ((rat x i).1 = (rat y i).1)) x.length 0 = decide (gL x = gL y) := by
  rw [Bool.eq_iff_iff, allN_iff]
  simp only [Nat.zero_le, true_implies, Nat.zero_add, decide_eq_true_eq]
  refine ⟨fun h => List.ext_getElem (by simp [gL, he]) fun i h1 h2 => ?_, fun h i hi => ?_⟩
  · have hi : i < x.length := by simpa [gL] using h1
    have := h i hi
    simpa [gL, rat, hi, he] using this
  · have := congrArg (fun l => lat l i) h
    simpa [lat_gL] using this
end Go.Proofs.YtmmkjbcklghopaaDoor
