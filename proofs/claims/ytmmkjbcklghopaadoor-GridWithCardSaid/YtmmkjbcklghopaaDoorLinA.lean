/- Lines that may be: what keeps them so. Plain laws. Conditions: none. -/
import Derived.Test.YtmmkjbcklghopaaDoorLin5
set_option linter.unusedVariables false
set_option linter.unusedSimpArgs false
set_option linter.unusedSectionVars false
set_option maxRecDepth 20000
set_option maxHeartbeats 1000000
namespace Go.Proofs.YtmmkjbcklghopaaDoor
open Go
theorem at_set (l : List Cl) (i j : Nat) (x : Cl) : at' (l.set i x) j = if j = i ∧ i < l.length then x else at' l j := by
  unfold at'
  rw [List.getD_eq_getElem?_getD, List.getElem?_set, List.getD_eq_getElem?_getD]
  by_cases e : i = j
  · subst e
    by_cases h : i < l.length
    · simp [h]
    · simp [h]
  · simp [e, Ne.symm e]
theorem at_app (a b : List Cl) (j : Nat) : at' (a ++ b) j = if j < a.length then at' a j else at' b (j - a.length) := by
  unfold at'
  rw [List.getD_eq_getElem?_getD, List.getElem?_append]
  split <;> simp [List.getD_eq_getElem?_getD]
theorem at_take (l : List Cl) {n j : Nat} (h : j < n) : at' (l.take n) j = at' l j := by
  unfold at'
  simp [List.getD_eq_getElem?_getD, List.getElem?_take, h]
theorem at_drop (l : List Cl) (n j : Nat) : at' (l.drop n) j = at' l (n + j) := by
  unfold at'
  simp [List.getD_eq_getElem?_getD, List.getElem?_drop]
theorem at_ext {a b : List Cl} (hl : a.length = b.length) (h : ∀ i, i < a.length → at' a i = at' b i) : a = b := by
  refine List.ext_getElem hl fun i h1 h2 => ?_
  have := h i h1
  rwa [at_eq h1, at_eq h2] at this
/-- A line that may be, of any length. -/
structure MayP (l : List Cl) : Prop where
  cell : ∀ i, i < l.length → mayC (at' l i) = true
  right : ∀ i, i + 1 < l.length → (at' l i).h = 1 → (at' l (i + 1)).h = 2 ∧ (at' l i).p = (at' l (i + 1)).p
  left : ∀ i, i < l.length → (at' l i).h = 2 → 0 < i ∧ (at' l (i - 1)).h = 1
  last : ∀ i, i + 1 = l.length → (at' l i).h ≠ 1
theorem mayL_iff (l : List Cl) : mayL l = true ↔ l.length ≤ 1000 ∧ MayP l := by
  unfold mayL
  rw [Bool.and_eq_true, decide_eq_true_eq, allN_iff]
  simp only [Nat.zero_le, true_implies, Nat.zero_add]
  refine and_congr_right fun _ => ⟨fun h => ⟨fun i hi => ?_, fun i hi h1 => ?_, fun i hi h2 => ?_, fun i hi h1 => ?_⟩, fun h i hi => ?_⟩
  · have := h i hi
    unfold mayI at this
    rw [Bool.and_eq_true] at this
    exact this.1
  · have := h (i + 1) hi
    unfold mayI at this
    rw [Nat.add_sub_cancel, if_pos ⟨by omega, h1⟩] at this
    simp at this
    exact this.2
  · have := h i hi
    unfold mayI at this
    by_cases c : 0 < i ∧ (at' l (i - 1)).h = 1
    · exact c
    · rw [if_neg c] at this
      simp [h2] at this
  · have := h i (by omega)
    unfold mayI at this
    by_cases c : 0 < i ∧ (at' l (i - 1)).h = 1
    · rw [if_pos c] at this
      simp [h1] at this
    · rw [if_neg c] at this
      simp [h1, hi] at this
  · unfold mayI
    rw [Bool.and_eq_true]
    refine ⟨h.cell i hi, ?_⟩
    by_cases c : 0 < i ∧ (at' l (i - 1)).h = 1
    · rw [if_pos c]
      have := h.right (i - 1) (by omega) c.2
      rw [show i - 1 + 1 = i by omega] at this
      simp [this]
    · rw [if_neg c]
      have h2 : ¬ (at' l i).h = 2 := fun e => c (h.left i hi e)
      by_cases e : i + 1 = l.length
      · simp [h2, h.last i e]
      · simp [h2, e]
/-- Nothing wide lies over a place. -/
def CutP (l : List Cl) (i : Nat) : Prop := i < l.length → (at' l i).h ≠ 2
theorem cut_left {l : List Cl} {i : Nat} (h : MayP l) (hc : CutP l i) (h0 : 0 < i) (hi : i ≤ l.length) : (at' l (i - 1)).h ≠ 1 := by
  by_cases e : i = l.length
  · exact h.last (i - 1) (by omega)
  · intro h1
    have := (h.right (i - 1) (by omega) h1).1
    rw [show i - 1 + 1 = i by omega] at this
    exact hc (by omega) this
theorem may_app {a b : List Cl} (ha : MayP a) (hb : MayP b) : MayP (a ++ b) := by
  refine ⟨fun i hi => ?_, fun i hi h1 => ?_, fun i hi h2 => ?_, fun i hi => ?_⟩
  · rw [List.length_append] at hi
    rw [at_app]
    split
    · exact ha.cell i (by omega)
    · exact hb.cell _ (by omega)
  · rw [List.length_append] at hi
    rw [at_app] at h1 ⊢
    rw [at_app]
    by_cases c : i < a.length
    · rw [if_pos c] at h1 ⊢
      have hn : ¬ i + 1 = a.length := fun e => ha.last i e h1
      rw [if_pos (by omega)]
      exact ha.right i (by omega) h1
    · rw [if_neg c] at h1 ⊢
      rw [if_neg (by omega), show i + 1 - a.length = i - a.length + 1 by omega]
      exact hb.right _ (by omega) h1
  · rw [List.length_append] at hi
    rw [at_app] at h2
    by_cases c : i < a.length
    · rw [if_pos c] at h2
      have := ha.left i c h2
      rw [at_app, if_pos (by omega)]
      exact this
    · rw [if_neg c] at h2
      have := hb.left _ (by omega) h2
      rw [at_app, if_neg (by omega), show i - 1 - a.length = i - a.length - 1 by omega]
      exact ⟨by omega, this.2⟩
  · rw [List.length_append] at hi
    rw [at_app]
    split
    · exact ha.last i (by omega)
    · exact hb.last _ (by omega)
theorem may_take {l : List Cl} (h : MayP l) {n : Nat} (hc : CutP l n) (hn : n ≤ l.length) : MayP (l.take n) := by
  have hl : (l.take n).length = n := by simp; omega
  refine ⟨fun i hi => ?_, fun i hi h1 => ?_, fun i hi h2 => ?_, fun i hi => ?_⟩
  · rw [at_take l (by omega)]; exact h.cell i (by omega)
  · rw [at_take l (by omega)] at h1 ⊢
    rw [at_take l (by omega)]
    exact h.right i (by omega) h1
  · rw [at_take l (by omega)] at h2
    rw [at_take l (by omega)]
    exact h.left i (by omega) h2
  · rw [at_take l (by omega)]
    have := cut_left h hc (by omega) hn
    rwa [show n - 1 = i by omega] at this
theorem may_drop {l : List Cl} (h : MayP l) {n : Nat} (hc : CutP l n) (hn : n ≤ l.length) : MayP (l.drop n) := by
  have hl : (l.drop n).length = l.length - n := by simp
  refine ⟨fun i hi => ?_, fun i hi h1 => ?_, fun i hi h2 => ?_, fun i hi => ?_⟩
  · rw [at_drop]; exact h.cell _ (by omega)
  · rw [at_drop] at h1 ⊢
    rw [at_drop, show n + (i + 1) = n + i + 1 by omega]
    exact h.right _ (by omega) h1
  · rw [at_drop] at h2
    have := h.left _ (by omega) h2
    have h0 : 0 < i := by
      rcases Nat.eq_zero_or_pos i with e | e
      · subst e; exact absurd h2 (hc (by omega))
      · exact e
    rw [at_drop, show n + (i - 1) = n + i - 1 by omega]
    exact ⟨h0, this.2⟩
  · rw [at_drop]; exact h.last _ (by omega)
theorem mayC_pen {x : Cl} (h : mayC x = true) : penB x.p.b x.p.f x.p.k = true := by
  unfold mayC at h
  rw [Bool.and_eq_true] at h
  exact h.1
theorem penB_k {b f k : Int} (h : penB b f k = true) : inN k 256 = true := by
  unfold penB at h
  rw [Bool.and_eq_true, Bool.and_eq_true] at h
  exact h.2.2
theorem mayC_blank {k : Int} (h : inN k 256 = true) : mayC (blankC k) = true := by
  have e : penB 0 0 k = true := by
    have h1 : inN 0 255 = true := by decide
    have h2 : inN 0 256 = true := by decide
    unfold penB
    rw [h, h1, h2]; rfl
  have c : mayC (blankC 0) = true := by decide
  unfold mayC at c ⊢
  rw [Bool.and_eq_true] at c ⊢
  exact ⟨e, c.2⟩
theorem at_torn (l : List Cl) (a : Nat) (ha : 0 < a) (hl : a < l.length) (h2 : (at' l a).h = 2) (j : Nat) : at' (tornL l (a : Int)) j = if j = a then blankC (at' l a).p.k else if j + 1 = a then blankC (at' l (a - 1)).p.k else at' l j := by
  unfold tornL
  rw [if_pos ⟨by omega, by omega, by rw [Int.toNat_natCast]; exact h2⟩, Int.toNat_natCast, at_set, List.length_set, at_set]
  by_cases e : j = a
  · rw [if_pos ⟨e, hl⟩, if_pos e]
  · rw [if_neg (fun h => e h.1), if_neg e]
    by_cases e2 : j + 1 = a
    · rw [if_pos ⟨by omega, by omega⟩, if_pos e2]
    · rw [if_neg (fun h => e2 (by omega)), if_neg e2]
theorem torn_same (l : List Cl) (i : Int) (h : ¬ (0 < i ∧ i < l.length ∧ (at' l i.toNat).h = 2)) : tornL l i = l := if_neg h
theorem may_torn {l : List Cl} (h : MayP l) (i : Int) : MayP (tornL l i) := by
  by_cases c : 0 < i ∧ i < l.length ∧ (at' l i.toNat).h = 2
  case neg => rw [torn_same l i c]; exact h
  obtain ⟨a, rfl⟩ : ∃ a : Nat, i = a := ⟨i.toNat, by omega⟩
  rw [Int.toNat_natCast] at c
  obtain ⟨c1, c2, c3⟩ := c
  have ht := at_torn l a (by omega) (by omega) c3
  have hl := torn_len l (a : Int)
  have hp := (h.left a (by omega) c3).2
  have k1 := mayC_blank (penB_k (mayC_pen (h.cell a (by omega))))
  have k2 := mayC_blank (penB_k (mayC_pen (h.cell (a - 1) (by omega))))
  have z1 : ∀ k, (blankC k).h = 0 := fun _ => rfl
  refine ⟨fun j hj => ?_, fun j hj h1 => ?_, fun j hj h2 => ?_, fun j hj => ?_⟩
  · rw [ht]
    split
    · exact k1
    · split
      · exact k2
      · exact h.cell j (by omega)
  · rw [ht] at h1
    by_cases e : j = a
    · rw [if_pos e, z1] at h1; omega
    · rw [if_neg e] at h1
      by_cases e2 : j + 1 = a
      · rw [if_pos e2, z1] at h1; omega
      · rw [if_neg e2] at h1
        have := h.right j (by omega) h1
        have e3 : ¬ j + 1 + 1 = a := fun e => by rw [show j + 1 = a - 1 by omega, hp] at this; omega
        rw [ht, ht, if_neg e, if_neg e2, if_neg e2, if_neg e3]
        exact this
  · rw [ht] at h2
    by_cases e : j = a
    · rw [if_pos e, z1] at h2; omega
    · rw [if_neg e] at h2
      by_cases e2 : j + 1 = a
      · rw [if_pos e2, z1] at h2; omega
      · rw [if_neg e2] at h2
        have := h.left j (by omega) h2
        have e3 : ¬ j - 1 = a := fun e => by rw [e, c3] at this; omega
        rw [ht, if_neg e3, if_neg (by omega)]
        exact this
  · rw [ht]
    by_cases e : j = a
    · rw [if_pos e, z1]; omega
    · rw [if_neg e]
      by_cases e2 : j + 1 = a
      · rw [if_pos e2, z1]; omega
      · rw [if_neg e2]; exact h.last j (by omega)
theorem cut_torn (l : List Cl) (a : Nat) (h0 : 0 < a ∨ MayP l) : CutP (tornL l (a : Int)) a := by
  intro hl
  rw [torn_len] at hl
  by_cases c : 0 < a ∧ (at' l a).h = 2
  · rw [at_torn l a c.1 hl c.2, if_pos rfl]; simp [blankC]
  · rw [torn_same l _ (fun h => c ⟨by omega, by rw [Int.toNat_natCast] at h; exact h.2.2⟩)]
    intro e
    rcases h0 with h0 | h0
    · exact c ⟨h0, e⟩
    · exact c ⟨(h0.left a hl e).1, e⟩
theorem cut_torn_other (l : List Cl) (a b : Nat) (h : CutP l b) : CutP (tornL l (a : Int)) b := by
  intro hl
  rw [torn_len] at hl
  by_cases c : 0 < a ∧ a < l.length ∧ (at' l a).h = 2
  · rw [at_torn l a c.1 c.2.1 c.2.2]
    split
    · simp [blankC]
    · split
      · simp [blankC]
      · exact h hl
  · rw [torn_same l _ (fun h => c ⟨by omega, by omega, by rw [Int.toNat_natCast] at h; exact h.2.2⟩)]
    exact h hl
end Go.Proofs.YtmmkjbcklghopaaDoor
