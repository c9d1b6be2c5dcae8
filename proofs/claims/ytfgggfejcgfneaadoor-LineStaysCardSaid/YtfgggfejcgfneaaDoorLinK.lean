/- What stands beside what was changed. Plain laws. Conditions: none. -/
import Derived.Test.YtfgggfejcgfneaaDoorLinF
set_option linter.unusedVariables false
set_option linter.unusedSimpArgs false
set_option linter.unusedSectionVars false
set_option maxRecDepth 20000
set_option maxHeartbeats 1000000
namespace Go.Proofs.YtfgggfejcgfneaaDoor
open Go
/-- A cell as it was, or, half of a wide one that was torn, blank. -/
def Kept (x y : Cl) : Prop := y = x ∨ (x.h ≠ 0 ∧ y = blankC x.p.k)
theorem torn_kept {l : List Cl} (h : MayP l) (a j : Nat) : Kept (at' l j) (at' (tornL l (a : Int)) j) := by
  by_cases c : 0 < a ∧ a < l.length ∧ (at' l a).h = 2
  · obtain ⟨c1, c2, c3⟩ := c
    rw [at_torn l a c1 c2 c3]
    by_cases e : j = a
    · subst e; rw [if_pos rfl]; exact .inr ⟨by omega, rfl⟩
    · rw [if_neg e]
      by_cases e2 : j + 1 = a
      · subst e2
        rw [if_pos rfl, Nat.add_sub_cancel]
        have := (h.left _ c2 c3).2
        rw [Nat.add_sub_cancel] at this
        exact .inr ⟨by omega, rfl⟩
      · rw [if_neg e2]; exact .inl rfl
  · rw [torn_same l _ (fun h => c ⟨by omega, by omega, by rw [Int.toNat_natCast] at h; exact h.2.2⟩)]
    exact .inl rfl
theorem torn_far (l : List Cl) (a j : Nat) (h1 : j ≠ a) (h2 : j + 1 ≠ a) : at' (tornL l (a : Int)) j = at' l j := by
  by_cases c : 0 < a ∧ a < l.length ∧ (at' l a).h = 2
  · rw [at_torn l a c.1 c.2.1 c.2.2, if_neg h1, if_neg h2]
  · rw [torn_same l _ (fun h => c ⟨by omega, by omega, by rw [Int.toNat_natCast] at h; exact h.2.2⟩)]
theorem kept_two {l : List Cl} (h : MayP l) (x y j : Nat) : Kept (at' l j) (at' (tornL (tornL l (x : Int)) (y : Int)) j) := by
  rcases torn_kept h x j with e1 | ⟨e1, e2⟩
  · rcases torn_kept (may_torn h (x : Int)) y j with e3 | ⟨e3, e4⟩
    · exact .inl (e3.trans e1)
    · rw [e1] at e3 e4; exact .inr ⟨e3, e4⟩
  · rcases torn_kept (may_torn h (x : Int)) y j with e3 | ⟨e3, e4⟩
    · exact .inr ⟨e1, e3.trans e2⟩
    · rw [e2] at e3; exact absurd rfl e3
theorem erase_stays {l : List Cl} (h : mayL l = true) {b f k : Int} (hp : penB b f k = true) (s e : Int) (i : Nat) (hi : i < l.length) :
    (s ≤ i ∧ (i : Int) < e → at' (eraseT l s e b f k) i = blankC k) ∧ (¬ (s ≤ i ∧ (i : Int) < e) → Kept (at' l i) (at' (eraseT l s e b f k) i)) := by
  have hm := ((mayL_iff l).1 h).2
  unfold eraseT
  rw [h, hp, Bool.and_true, if_pos rfl]
  by_cases c : min e l.length ≤ max 0 s
  · rw [if_pos c]
    exact ⟨fun hh => by omega, fun _ => .inl rfl⟩
  rw [if_neg c]
  obtain ⟨x, hx⟩ : ∃ x : Nat, max 0 s = x := ⟨(max 0 s).toNat, by omega⟩
  obtain ⟨y, hy⟩ : ∃ y : Nat, min e (l.length : Int) = y := ⟨(min e l.length).toNat, by omega⟩
  rw [hx, hy, Int.toNat_natCast, Int.toNat_natCast]
  have hk := kept_two hm x y
  have el : (tornL (tornL l (x : Int)) (y : Int)).length = l.length := by rw [torn_len, torn_len]
  generalize tornL (tornL l (x : Int)) (y : Int) = E at *
  have hs : (List.take x E).length = x := by simp; omega
  rw [at_app, at_app, List.length_append, hs, List.length_replicate]
  by_cases c1 : i < x
  · rw [if_pos (by omega), if_pos c1, at_take _ c1]
    exact ⟨fun hh => by omega, fun _ => hk i⟩
  · by_cases c2 : i < y
    · rw [if_pos (by omega), if_neg c1, at_rep _ (by omega)]
      exact ⟨fun _ => rfl, fun hh => absurd ⟨by omega, by omega⟩ hh⟩
    · rw [if_neg (by omega), at_drop, show y + (i - (x + (y - x))) = i by omega]
      exact ⟨fun hh => by omega, fun _ => hk i⟩
theorem put_stays {l : List Cl} (h : mayL l = true) {b f k : Int} (hp : penB b f k = true) (a c : Int) (i : Nat) (hi : i < l.length) (hf : (i : Int) < a - 1 ∨ a + 2 < i) : at' (putT l a c b f k) i = at' l i := by
  unfold putT
  rw [h, hp, Bool.and_true, if_pos rfl]
  have hr := ofR_range c
  by_cases cc : ofR c < 1 ∨ a < 0 ∨ (l.length : Int) - ofR c < a
  · rw [if_pos cc]
  rw [if_neg cc]
  obtain ⟨x, rfl⟩ : ∃ x : Nat, a = x := ⟨a.toNat, by omega⟩
  rw [Int.toNat_natCast]
  by_cases h2 : ofR c = 2
  · rw [if_pos h2, show (x : Int) + 2 = ((x + 2 : Nat) : Int) by omega, at_set, if_neg (by omega), at_set, if_neg (by omega), torn_far _ _ _ (by omega) (by omega), torn_far _ _ _ (by omega) (by omega)]
  · rw [if_neg h2, show (x : Int) + 1 = ((x + 1 : Nat) : Int) by omega, at_set, if_neg (by omega), torn_far _ _ _ (by omega) (by omega), torn_far _ _ _ (by omega) (by omega)]
end Go.Proofs.YtfgggfejcgfneaaDoor
