/- The document's rosters. Conditions: as each statement says. -/
import Derived.Test.YtfnonledcniojaaRos4
import Derived.KernelRfl
set_option linter.unusedVariables false
set_option linter.unusedSimpArgs false
set_option linter.unusedSectionVars false
set_option maxRecDepth 20000
set_option maxHeartbeats 1000000
namespace Go.Proofs.Ytfnonledcniojaa
open Go
variable (G : Nat → Option (List AV))
theorem ros_len (f : Int → Int) : ∀ (n : Nat) (k : Int), (ros f n k).length ≤ n
  | 0, _ => by simp [ros]
  | n + 1, k => by
    have := ros_len f n (k + 1)
    rw [ros]; split <;> simp <;> omega
theorem there_role {l : List (Int × Int)} (hm : mayM l = true) (id : Int) : thereB l id = decide (roleOf l id ≠ 0) := by
  rw [thereB, hm, Bool.true_and]
  by_cases h : idB id = true
  · rw [h, Bool.true_and]
  · have h' : idB id = false := by simpa using h
    rw [h', Bool.false_and]
    have : roleOf l id = 0 := by
      rw [idB] at h
      simp only [Bool.and_eq_true, decide_eq_true_eq] at h
      by_cases h1 : 1 ≤ id
      · exact roleOf_hi l 0 hm id (by omega)
      · exact roleOf_low l 0 hm id (by omega)
    simp [this]
set_option maxRecDepth 100000 in
theorem known26_P : aP G FT n_law26_known [] = some (.bool true) := aP_fuel 60 (by kernel_rfl)
end Go.Proofs.Ytfnonledcniojaa
