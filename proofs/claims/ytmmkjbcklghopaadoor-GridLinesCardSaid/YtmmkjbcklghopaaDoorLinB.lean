/- What the document does with a line: Erase, Insert, Delete, Fit. Conditions: as each statement says. -/
import Derived.Test.YtmmkjbcklghopaaDoorLin9
import Derived.Test.YtmmkjbcklghopaaDoorLin7
import Derived.Test.YtmmkjbcklghopaaDoorLinA
set_option linter.unusedVariables false
set_option linter.unusedSimpArgs false
set_option linter.unusedSectionVars false
set_option maxRecDepth 20000
set_option maxHeartbeats 2000000
namespace Go.Proofs.YtmmkjbcklghopaaDoor
open Go
variable (G : Nat → Option (List AV))
/-- Blanks over a place, one after the other. -/
def overR (E : List Cl) (s n : Nat) (k : Int) : List Cl := E.take s ++ List.replicate n (blankC k) ++ E.drop (s + n)
theorem overR_len {E : List Cl} {s n : Nat} {k : Int} (h : s + n ≤ E.length) : (overR E s n k).length = E.length := by simp [overR]; omega
def eraseR (l : List Cl) (s e k : Int) : List Cl :=
  if min e l.length ≤ max 0 s then l else overR (tearR (tearR l (max 0 s).toNat) (min e l.length).toNat) (max 0 s).toNat ((min e l.length).toNat - (max 0 s).toNat) k
/-! ### The same, where the line may be -/
theorem tearR_eq {l : List Cl} (h : MayP l) (a : Nat) (ha : a ≤ l.length) : tearR l a = tornL l (a : Int) := by
  refine at_ext (by rw [tearR_len, torn_len]) fun i hi => ?_
  rw [tearR_len] at hi
  have e1 : at' (tearR l a) i = tearC l a i := by
    rw [at_eq (by rw [tearR_len]; exact hi)]
    simp [tearR, preR]
  rw [e1]
  unfold tearC
  by_cases c : 0 < a ∧ a < l.length ∧ (at' l a).h = 2
  · obtain ⟨c1, c2, c3⟩ := c
    have hp := (h.left a c2 c3).2
    rw [at_torn l a c1 c2 c3]
    by_cases e : i = a
    · subst e; rw [if_pos (.inl ⟨rfl, c3⟩), if_pos rfl]
    · rw [if_neg e]
      by_cases e2 : i + 1 = a
      · subst e2
        rw [Nat.add_sub_cancel] at hp ⊢
        rw [if_pos (.inr ⟨rfl, hp⟩), if_pos rfl]
      · rw [if_neg e2, if_neg (by rintro (⟨h, _⟩ | ⟨h, _⟩); exact e h; exact e2 h)]
  · rw [torn_same l _ (fun h => c ⟨by omega, by omega, by rw [Int.toNat_natCast] at h; exact h.2.2⟩)]
    rw [if_neg]
    rintro (⟨e, e2⟩ | ⟨e, e2⟩)
    · subst e; exact c ⟨(h.left i hi e2).1, hi, e2⟩
    · subst e
      by_cases hl : i + 1 = l.length
      · exact h.last i hl e2
      · exact c ⟨by omega, by omega, (h.right i (by omega) e2).1⟩

theorem overR_eq (E : List Cl) (s n : Nat) (k : Int) : overR E s n k = E.take s ++ List.replicate n (blankC k) ++ E.drop (s + n) := rfl
theorem erase_eq {l : List Cl} (h : mayL l = true) {b f k : Int} (hp : penB b f k = true) (s e : Int) : eraseT l s e b f k = eraseR l s e k := by
  have hm := ((mayL_iff l).1 h).2
  unfold eraseT eraseR
  rw [h, hp, Bool.and_true, if_pos rfl]
  by_cases c : min e l.length ≤ max 0 s
  · rw [if_pos c, if_pos c]
  · rw [if_neg c, if_neg c]
    obtain ⟨x, hx⟩ : ∃ x : Nat, max 0 s = x := ⟨(max 0 s).toNat, by omega⟩
    obtain ⟨y, hy⟩ : ∃ y : Nat, min e (l.length : Int) = y := ⟨(min e l.length).toNat, by omega⟩
    rw [hx, hy, Int.toNat_natCast, Int.toNat_natCast, tearR_eq hm x (by omega), tearR_eq (may_torn hm _) y (by rw [torn_len]; omega), overR_eq, show x + (y - x) = y by omega]
end Go.Proofs.YtmmkjbcklghopaaDoor
