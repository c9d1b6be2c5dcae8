/- Whatever is done with a line, it stays one that may be: Erase, Insert, Delete, Fit. Plain laws. Conditions: none. -/
import Derived.Test.YtmmkjbcklghopaaDoorLinA
import Derived.Test.YtmmkjbcklghopaaDoorLin7
set_option linter.unusedVariables false
set_option linter.unusedSimpArgs false
set_option linter.unusedSectionVars false
set_option maxRecDepth 20000
set_option maxHeartbeats 1000000
namespace Go.Proofs.YtmmkjbcklghopaaDoor
open Go
theorem mayL_nil : mayL [] = true := by decide
/-- Torn at two places: may be, cut at both. -/
theorem torn_two {l : List Cl} (h : MayP l) (x y : Nat) : MayP (tornL (tornL l (x : Int)) (y : Int)) ∧ CutP (tornL (tornL l (x : Int)) (y : Int)) x ∧ CutP (tornL (tornL l (x : Int)) (y : Int)) y ∧ (tornL (tornL l (x : Int)) (y : Int)).length = l.length :=
  ⟨may_torn (may_torn h _) _, cut_torn_other _ _ _ (cut_torn l x (.inr h)), cut_torn _ y (.inr (may_torn h _)), by rw [torn_len, torn_len]⟩
theorem fine_split {l : List Cl} {b f k : Int} (h : (mayL l && penB b f k) = true) : l.length ≤ 1000 ∧ MayP l ∧ inN k 256 = true := by
  rw [Bool.and_eq_true] at h
  have := (mayL_iff l).1 h.1
  exact ⟨this.1, this.2, penB_k h.2⟩
theorem erase_may {l : List Cl} (h : mayL l = true) (s e b f k : Int) : mayL (eraseT l s e b f k) = true ∧ (penB b f k = true → (eraseT l s e b f k).length = l.length) := by
  unfold eraseT
  by_cases hf : (mayL l && penB b f k) = true
  case neg => rw [if_neg hf]; exact ⟨mayL_nil, fun hp => absurd (by rw [h, hp]; rfl) hf⟩
  rw [if_pos hf]
  obtain ⟨hl, hm, hk⟩ := fine_split hf
  by_cases c : min e l.length ≤ max 0 s
  · rw [if_pos c]; exact ⟨h, fun _ => rfl⟩
  rw [if_neg c]
  obtain ⟨x, hx⟩ : ∃ x : Nat, max 0 s = x := ⟨(max 0 s).toNat, by omega⟩
  obtain ⟨y, hy⟩ : ∃ y : Nat, min e (l.length : Int) = y := ⟨(min e l.length).toNat, by omega⟩
  rw [hx, hy, Int.toNat_natCast, Int.toNat_natCast]
  obtain ⟨m, c1, c2, el⟩ := torn_two hm x y
  generalize tornL (tornL l x) y = E at *
  have hlen : (List.take x E ++ List.replicate (y - x) (blankC k) ++ List.drop y E).length = l.length := by simp [el]; omega
  exact ⟨(mayL_iff _).2 ⟨by omega, may_app (may_app (may_take m c1 (by omega)) (may_blanks hk _)) (may_drop m c2 (by omega))⟩, fun _ => hlen⟩
end Go.Proofs.YtmmkjbcklghopaaDoor
