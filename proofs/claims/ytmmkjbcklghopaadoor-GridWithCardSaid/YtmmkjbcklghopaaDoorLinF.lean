/- Whatever is done, a line stays one that may be. Plain laws. Conditions: none. -/
import Derived.Test.YtmmkjbcklghopaaDoorLinF1
import Derived.Test.YtmmkjbcklghopaaDoorLin8
set_option linter.unusedVariables false
set_option linter.unusedSimpArgs false
set_option linter.unusedSectionVars false
set_option maxRecDepth 20000
set_option maxHeartbeats 1000000
namespace Go.Proofs.YtmmkjbcklghopaaDoor
open Go
theorem may_one {x : Cl} (h : mayC x = true) (h0 : x.h = 0) : MayP [x] := by
  refine ⟨fun i hi => ?_, fun i hi h1 => ?_, fun i hi h2 => ?_, fun i hi => ?_⟩
  · simp at hi; subst hi; exact h
  · simp at hi
  · simp at hi; subst hi
    exact absurd (show x.h = 2 from h2) (by omega)
  · simp at hi; subst hi
    show x.h ≠ 1
    omega
theorem may_wide {x y : Cl} (h : mayC x = true) (k : mayC y = true) (h1 : x.h = 1) (h2 : y.h = 2) (hp : x.p = y.p) : MayP [x, y] := by
  refine ⟨fun i hi => ?_, fun i hi e => ?_, fun i hi e => ?_, fun i hi => ?_⟩
  · simp at hi
    rcases (by omega : i = 0 ∨ i = 1) with rfl | rfl
    · exact h
    · exact k
  · obtain rfl : i = 0 := by simp at hi; omega
    exact ⟨h2, hp⟩
  · simp at hi
    rcases (by omega : i = 0 ∨ i = 1) with rfl | rfl
    · exact absurd (show x.h = 2 from e) (by omega)
    · exact ⟨by omega, h1⟩
  · simp at hi; subst hi
    show y.h ≠ 1
    omega
theorem put_may {l : List Cl} (h : mayL l = true) (a c b f k : Int) : mayL (putT l a c b f k) = true ∧ (penB b f k = true → (putT l a c b f k).length = l.length) := by
  unfold putT
  by_cases hf : (mayL l && penB b f k) = true
  case neg => rw [if_neg hf]; exact ⟨mayL_nil, fun hp => absurd (by rw [h, hp]; rfl) hf⟩
  rw [if_pos hf]
  obtain ⟨hl, hm, hk⟩ := fine_split hf
  have hp : penB b f k = true := by rw [Bool.and_eq_true] at hf; exact hf.2
  have hr := ofR_range c
  by_cases cc : ofR c < 1 ∨ a < 0 ∨ (l.length : Int) - ofR c < a
  · rw [if_pos cc]; exact ⟨h, fun _ => rfl⟩
  rw [if_neg cc]
  obtain ⟨x, rfl⟩ : ∃ x : Nat, a = x := ⟨a.toNat, by omega⟩
  rw [Int.toNat_natCast]
  by_cases h2 : ofR c = 2
  · rw [if_pos h2, show (x : Int) + 2 = ((x + 2 : Nat) : Int) by omega]
    obtain ⟨m, c1, c2, el⟩ := torn_two hm x (x + 2)
    generalize tornL (tornL l x) ((x + 2 : Nat) : Int) = E at *
    have e : (E.set x ⟨c, 0, 0, 1, ⟨b, f, k⟩⟩).set (x + 1) ⟨0, 0, 0, 2, ⟨b, f, k⟩⟩ = E.take x ++ [⟨c, 0, 0, 1, ⟨b, f, k⟩⟩, ⟨0, 0, 0, 2, ⟨b, f, k⟩⟩] ++ E.drop (x + 2) := by
      have hx : (List.take x E).length = x := by simp; omega
      refine at_ext (by simp; omega) fun i hi => ?_
      simp only [List.length_set] at hi
      rw [at_set, at_set, at_app, at_app, List.length_append, hx, List.length_set]
      by_cases i1 : i < x
      · rw [if_neg (by omega), if_neg (by omega), if_pos (by simp; omega), if_pos i1, at_take _ i1]
      · by_cases i2 : i = x
        · subst i2
          rw [if_neg (by omega), if_pos ⟨rfl, by omega⟩, if_pos (by simp), if_neg (by omega), Nat.sub_self]; rfl
        · by_cases i3 : i = x + 1
          · subst i3
            rw [if_pos ⟨rfl, by omega⟩, if_pos (by simp), if_neg (by omega), show x + 1 - x = 1 by omega]; rfl
          · rw [if_neg (by omega), if_neg (by omega), if_neg (by simp; omega), at_drop]
            congr 1
            simp
            omega
    have hlen : (E.take x ++ ([⟨c, 0, 0, 1, ⟨b, f, k⟩⟩, ⟨0, 0, 0, 2, ⟨b, f, k⟩⟩] : List Cl) ++ E.drop (x + 2)).length = l.length := by simp [el]; omega
    rw [e]
    refine ⟨(mayL_iff _).2 ⟨by omega, may_app (may_app (may_take m c1 (by omega)) (may_wide ?_ ?_ rfl rfl rfl)) (may_drop m c2 (by omega))⟩, fun _ => hlen⟩
    · unfold mayC
      rw [hp]
      simp [h2, markedB]
    · unfold mayC
      rw [hp]
      simp
  · have h1 : ofR c = 1 := by omega
    rw [if_neg h2, show (x : Int) + 1 = ((x + 1 : Nat) : Int) by omega]
    obtain ⟨m, c1, c2, el⟩ := torn_two hm x (x + 1)
    generalize tornL (tornL l x) ((x + 1 : Nat) : Int) = E at *
    have e : E.set x ⟨c, 0, 0, 0, ⟨b, f, k⟩⟩ = E.take x ++ [⟨c, 0, 0, 0, ⟨b, f, k⟩⟩] ++ E.drop (x + 1) := by
      rw [List.set_eq_take_append_cons_drop, if_pos (by omega)]; simp
    have hlen : (E.take x ++ ([⟨c, 0, 0, 0, ⟨b, f, k⟩⟩] : List Cl) ++ E.drop (x + 1)).length = l.length := by simp [el]; omega
    rw [e]
    refine ⟨(mayL_iff _).2 ⟨by omega, may_app (may_app (may_take m c1 (by omega)) (may_one ?_ rfl)) (may_drop m c2 (by omega))⟩, fun _ => hlen⟩
    unfold mayC
    rw [hp]
    simp [h1, markedB]
end Go.Proofs.YtmmkjbcklghopaaDoor
