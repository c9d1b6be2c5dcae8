/- Sessions: Take, Write. Conditions: as each statement says. -/
import Derived.Test.YthcnhibjddomdaaSed
set_option linter.unusedVariables false
set_option linter.unusedSimpArgs false
set_option linter.unusedSectionVars false
set_option maxRecDepth 20000
set_option maxHeartbeats 8000000
namespace Go.Proofs.Ythcnhibjddomdaa
open Go
variable (G : Nat → Option (List AV))
theorem tkFrom_at (s : Ses) : ∀ (m i : Nat), tkFrom s m i = true → ∀ j, i ≤ j → j < i + m → tkB s j = true := by
  intro m
  induction m with
  | zero => intro i _ j h1 h2; omega
  | succ m ih =>
    intro i h j h1 h2
    rw [tkFrom, Bool.and_eq_true] at h
    by_cases e : j = i
    · rw [e]; exact h.1
    · exact ih (i + 1) h.2 j (by omega) (by omega)
theorem ses_parts {s : Ses} (h : sesB s = true) : mayM s.mem = true ∧ mayT s.h s.tq = true ∧ mayQ 0 s.q = true ∧ mayW s.w = true ∧ sizB s = true ∧ (s.h = 0 ∨ wrB s.mem s.h = true) ∧ (∀ id ∈ s.tq, wrB s.mem id = true) ∧ (∀ j, j < 9 → tkB s j = true) ∧ (∀ t ∈ s.q, outB s t = false) := by
  simp only [sesB, Bool.and_eq_true, Bool.or_eq_true, decide_eq_true_eq, Bool.not_eq_true', List.any_eq_false, Bool.not_eq_true] at h
  obtain ⟨⟨⟨⟨⟨⟨⟨⟨h1, h2⟩, h3⟩, h4⟩, h5⟩, h6⟩, h7⟩, h8⟩, h9⟩ := h
  exact ⟨h1, h2, h3, h4, h5, h6, fun id hi => by simpa using h7 id hi, fun j hj => tkFrom_at s 9 0 h8 j (by omega) (by omega), fun t ht => by simpa using h9 t ht⟩
end Go.Proofs.Ythcnhibjddomdaa
