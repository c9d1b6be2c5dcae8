/- Grids: blanks, the document's copies, whether two are alike, how great they are. Conditions: the table lies as laid. -/
import Derived.Test.YtmmkjbcklghopaaDoorGr2
set_option linter.unusedVariables false
set_option linter.unusedSimpArgs false
set_option linter.unusedSectionVars false
set_option maxRecDepth 20000
set_option maxHeartbeats 2000000
namespace Go.Proofs.YtmmkjbcklghopaaDoor
open Go
variable (G : Nat → Option (List AV)) (hG : G 0 = some tabC)
theorem rat_rep {n : Nat} {r : Rw} {i : Nat} (h : i < n) : rat (List.replicate n r) i = r := by simp [rat, h]
theorem sideB_nat {n : Int} (h : sideB n = true) : ∃ m : Nat, n = m ∧ 1 ≤ m ∧ m ≤ 200 := by
  simp only [sideB, Bool.and_eq_true, decide_eq_true_eq] at h
  exact ⟨n.toNat, by omega, by omega, by omega⟩
end Go.Proofs.YtmmkjbcklghopaaDoor
