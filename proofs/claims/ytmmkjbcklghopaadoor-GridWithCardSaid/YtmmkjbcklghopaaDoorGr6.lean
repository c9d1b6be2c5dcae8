/- Grids of which rows went up or down. Conditions: the table lies as laid. -/
import Derived.Test.YtmmkjbcklghopaaDoorGr4
set_option linter.unusedVariables false
set_option linter.unusedSimpArgs false
set_option linter.unusedSectionVars false
set_option maxRecDepth 20000
set_option maxHeartbeats 4000000
namespace Go.Proofs.YtmmkjbcklghopaaDoor
open Go
theorem rat_set (l : List Rw) (i j : Nat) (x : Rw) : rat (l.set i x) j = if j = i ∧ i < l.length then x else rat l j := by
  unfold rat
  by_cases h : j = i
  · subst h
    by_cases h2 : j < l.length
    · simp [h2]
    · simp [h2]
  · have h' : ¬ i = j := fun e => h e.symm
    simp [h, h']
theorem rat_range (p : Nat → Rw) {n i : Nat} (h : i < n) : rat ((List.range n).map p) i = p i := by simp [rat, h]
/-- A grid that may be. -/
structure MayR (g : List Rw) (W : Nat) : Prop where
  n1 : 1 ≤ g.length
  n2 : g.length ≤ 200
  w1 : 1 ≤ W
  w2 : W ≤ 200
  len : ∀ i, i < g.length → (rat g i).1.length = W
  may : ∀ i, i < g.length → mayL (rat g i).1 = true
theorem mayG_iff (g : List Rw) : mayG (gL g) = true ↔ MayR g (rat g 0).1.length := by
  unfold mayG
  rw [gL_len, lat_gL]
  simp only [Bool.and_eq_true]
  rw [allN_iff]
  constructor
  · rintro ⟨h1, h2, h3⟩
    obtain ⟨n, e1, a1, a2⟩ := sideB_nat h1
    obtain ⟨m, e2, b1, b2⟩ := sideB_nat h2
    refine ⟨by omega, by omega, by omega, by omega, fun i hi => ?_, fun i hi => ?_⟩ <;>
    · have := h3 i (by omega) (by omega)
      unfold okRow at this
      rw [lat_gL, lat_gL, Bool.and_eq_true, decide_eq_true_eq] at this
      first | exact this.1 | exact this.2
  · intro h
    refine ⟨by simp [sideB]; have := h.n1; have := h.n2; omega, by simp [sideB]; have := h.w1; have := h.w2; omega, fun j _ hj => ?_⟩
    unfold okRow
    rw [lat_gL, lat_gL, Bool.and_eq_true, decide_eq_true_eq]
    exact ⟨h.len j (by omega), h.may j (by omega)⟩
variable (G : Nat → Option (List AV)) (hG : G 0 = some tabC)
section
variable (g : List Rw) (b f : Bool)
theorem rat_map_fr (g : List Rw) (i : Nat) (h : i < g.length) : rat (g.map fr) i = fr (rat g i) := by simp [rat, h]
end
end Go.Proofs.YtmmkjbcklghopaaDoor
