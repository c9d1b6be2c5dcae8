/- Lines that may be: what keeps them so. Plain laws. Conditions: none. -/
import Derived.Test.YtmmkjbcklghopaaDoorLin5
set_option linter.unusedVariables false
set_option linter.unusedSimpArgs false
set_option linter.unusedSectionVars false
set_option maxRecDepth 20000
set_option maxHeartbeats 1000000
namespace Go.Proofs.YtmmkjbcklghopaaDoor
open Go
theorem at_rep (x : Cl) {n j : Nat} (h : j < n) : at' (List.replicate n x) j = x := by
  unfold at'
  simp [List.getD_eq_getElem?_getD, List.getElem?_replicate, h]
/-- A line that may be, of any length. -/
structure MayP (l : List Cl) : Prop where
  cell : ∀ i, i < l.length → mayC (at' l i) = true
  right : ∀ i, i + 1 < l.length → (at' l i).h = 1 → (at' l (i + 1)).h = 2 ∧ (at' l i).p = (at' l (i + 1)).p
  left : ∀ i, i < l.length → (at' l i).h = 2 → 0 < i ∧ (at' l (i - 1)).h = 1
  last : ∀ i, i + 1 = l.length → (at' l i).h ≠ 1
theorem mayL_iff (l : List Cl) : mayL l = true ↔ l.length ≤ 1000 ∧ MayP l := by
  unfold mayL
  rw [Bool.and_eq_true, decide_eq_true_eq, allN_iff]
  simp only [Nat.zero_le, true_implies, Nat.zero_add]
  refine and_congr_right fun _ => ⟨fun h => ⟨fun i hi => ?_, fun i hi h1 => ?_, fun i hi h2 => ?_, fun i hi h1 => ?_⟩, fun h i hi => ?_⟩
  · have := h i hi
    unfold mayI at this
    rw [Bool.and_eq_true] at this
    exact this.1
  · have := h (i + 1) hi
    unfold mayI at this
    rw [Nat.add_sub_cancel, if_pos ⟨by omega, h1⟩] at this
    simp at this
    exact this.2
  · have := h i hi
    unfold mayI at this
    by_cases c : 0 < i ∧ (at' l (i - 1)).h = 1
    · exact c
    · rw [if_neg c] at this
      simp [h2] at this
  · have := h i (by omega)
    unfold mayI at this
    by_cases c : 0 < i ∧ (at' l (i - 1)).h = 1
    · rw [if_pos c] at this
      simp [h1] at this
    · rw [if_neg c] at this
      simp [h1, hi] at this
  · unfold mayI
    rw [Bool.and_eq_true]
    refine ⟨h.cell i hi, ?_⟩
    by_cases c : 0 < i ∧ (at' l (i - 1)).h = 1
    · rw [if_pos c]
      have := h.right (i - 1) (by omega) c.2
      rw [show i - 1 + 1 = i by omega] at this
      simp [this]
    · rw [if_neg c]
      have h2 : ¬ (at' l i).h = 2 := fun e => c (h.left i hi e)
      by_cases e : i + 1 = l.length
      · simp [h2, h.last i e]
      · simp [h2, e]
theorem penB_k {b f k : Int} (h : penB b f k = true) : inN k 256 = true := by
  unfold penB at h
  rw [Bool.and_eq_true, Bool.and_eq_true] at h
  exact h.2.2
theorem mayC_blank {k : Int} (h : inN k 256 = true) : mayC (blankC k) = true := by
  have e : penB 0 0 k = true := by
    have h1 : inN 0 255 = true := by decide
    have h2 : inN 0 256 = true := by decide
    unfold penB
    rw [h, h1, h2]; rfl
  have c : mayC (blankC 0) = true := by decide
  unfold mayC at c ⊢
  rw [Bool.and_eq_true] at c ⊢
  exact ⟨e, c.2⟩
theorem may_blanks {k : Int} (h : inN k 256 = true) (n : Nat) : MayP (List.replicate n (blankC k)) := by
  refine ⟨fun i hi => ?_, fun i hi h1 => ?_, fun i hi h2 => ?_, fun i hi => ?_⟩
  · rw [at_rep _ (by simpa using hi)]; exact mayC_blank h
  · rw [at_rep _ (by simp at hi; omega)] at h1; simp [blankC] at h1
  · rw [at_rep _ (by simpa using hi)] at h2; simp [blankC] at h2
  · rw [at_rep _ (by simp at hi; omega)]; simp [blankC]
end Go.Proofs.YtmmkjbcklghopaaDoor
