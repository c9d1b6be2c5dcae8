/- Blanks that came in and went out again. Plain law. Conditions: none. -/
import Derived.Test.YtfgggfejcgfneaaDoorLinF
set_option linter.unusedVariables false
set_option linter.unusedSimpArgs false
set_option linter.unusedSectionVars false
set_option maxRecDepth 20000
set_option maxHeartbeats 1000000
namespace Go.Proofs.YtfgggfejcgfneaaDoor
open Go
theorem torn_no (l : List Cl) (i : Nat) (h : i < l.length → (at' l i).h ≠ 2) : tornL l (i : Int) = l := by
  refine torn_same l _ fun ⟨_, h2, h3⟩ => ?_
  rw [Int.toNat_natCast] at h3
  exact h (by omega) h3
def inX (l : List Cl) (a n : Nat) : List Cl := l.take a ++ List.replicate n (blankC 5) ++ (l.drop a).take (l.length - (a + n))
theorem inX_len {l : List Cl} {a n : Nat} (h : a + n ≤ l.length) : (inX l a n).length = l.length := by simp [inX]; omega
theorem inX_at {l : List Cl} {a n : Nat} (h : a + n ≤ l.length) (i : Nat) (hi : i < l.length) : at' (inX l a n) i = if i < a then at' l i else if i < a + n then blankC 5 else at' l (i - n) := by
  have hs : (List.take a l).length = a := by simp; omega
  unfold inX
  rw [at_app, at_app, List.length_append, hs, List.length_replicate]
  by_cases c1 : i < a
  · rw [if_pos (by omega), if_pos c1, if_pos c1, at_take _ c1]
  · by_cases c2 : i < a + n
    · rw [if_pos c2, if_neg c1, if_neg c1, if_pos c2, at_rep _ (by omega)]
    · rw [if_neg c2, if_neg c1, if_neg c2, at_take _ (by omega), at_drop, show a + (i - (a + n)) = i - n by omega]
theorem insert_there {l : List Cl} (h : mayL l = true) {a n : Nat} (ha : a < l.length) (hn : 1 ≤ n) (hn2 : a + n ≤ l.length) (hb : ∀ i, l.length - n ≤ i → i < l.length → at' l i = blankC 0) (h2 : (at' l a).h ≠ 2) : insertT l a n 0 0 5 = inX l a n := by
  have hp : penB 0 0 5 = true := by decide
  unfold insertT
  rw [h, hp, Bool.and_true, if_pos rfl, if_neg (by omega)]
  have e : min (n : Int) ((l.length : Int) - a) = n := by omega
  rw [e, Int.toNat_natCast, Int.toNat_natCast, show (l.length : Int) - (n : Int) = ((l.length - n : Nat) : Int) by omega, torn_no l a (fun _ => h2), torn_no l (l.length - n) (fun hh => by rw [hb _ (Nat.le_refl _) hh]; simp [blankC])]
  rfl
theorem delete_there {l : List Cl} (h : mayL l = true) {a n : Nat} (ha : a < l.length) (hn : 1 ≤ n) (hn2 : a + n ≤ l.length) (hb : ∀ i, l.length - n ≤ i → i < l.length → at' l i = blankC 0) (h2 : (at' l a).h ≠ 2) (hx : mayL (inX l a n) = true) : deleteT (inX l a n) a n 0 0 0 = l := by
  have hp : penB 0 0 0 = true := by decide
  have hl := inX_len hn2
  unfold deleteT
  rw [hx, hp, Bool.and_true, if_pos rfl, hl, if_neg (by omega)]
  have e : min (n : Int) ((l.length : Int) - a) = n := by omega
  rw [e, Int.toNat_natCast, Int.toNat_natCast, show (a : Int) + (n : Int) = ((a + n : Nat) : Int) by omega]
  rw [torn_no _ a (fun hh => by rw [inX_at hn2 a ha, if_neg (by omega), if_pos (by omega)]; simp [blankC])]
  rw [torn_no _ (a + n) (fun hh => by rw [hl] at hh; rw [inX_at hn2 _ hh, if_neg (by omega), if_neg (by omega), Nat.add_sub_cancel]; exact h2)]
  refine at_ext (by simp [hl]; omega) fun i hi => ?_
  have hi' : i < l.length := by simp [hl] at hi; omega
  have hs : (List.take a (inX l a n)).length = a := by simp [hl]; omega
  rw [at_app, at_app, List.length_append, hs, List.length_drop, hl]
  by_cases c1 : i < a
  · rw [if_pos (by omega), if_pos c1, at_take _ c1, inX_at hn2 i hi', if_pos c1]
  · by_cases c2 : i < a + (l.length - (a + n))
    · rw [if_pos c2, if_neg c1, at_drop, inX_at hn2 _ (by omega), if_neg (by omega), if_neg (by omega)]
      congr 1; omega
    · rw [if_neg c2, at_rep _ (by omega), hb i (by omega) hi']
end Go.Proofs.YtfgggfejcgfneaaDoor
