/- Whatever is done with a line, it stays one that may be: Erase, Insert, Delete, Fit. Plain laws. Conditions: none. -/
import Derived.Test.YtmmkjbcklghopaaDoorLinA
import Derived.Test.YtmmkjbcklghopaaDoorLin7
set_option linter.unusedVariables false
set_option linter.unusedSimpArgs false
set_option linter.unusedSectionVars false
set_option maxRecDepth 20000
set_option maxHeartbeats 1000000
namespace Go.Proofs.YtmmkjbcklghopaaDoor
open Go
theorem mayL_nil : mayL [] = true := by decide
/-- Torn at two places: may be, cut at both. -/
theorem torn_two {l : List Cl} (h : MayP l) (x y : Nat) : MayP (tornL (tornL l (x : Int)) (y : Int)) ∧ CutP (tornL (tornL l (x : Int)) (y : Int)) x ∧ CutP (tornL (tornL l (x : Int)) (y : Int)) y ∧ (tornL (tornL l (x : Int)) (y : Int)).length = l.length :=
  ⟨may_torn (may_torn h _) _, cut_torn_other _ _ _ (cut_torn l x (.inr h)), cut_torn _ y (.inr (may_torn h _)), by rw [torn_len, torn_len]⟩
theorem fine_split {l : List Cl} {b f k : Int} (h : (mayL l && penB b f k) = true) : l.length ≤ 1000 ∧ MayP l ∧ inN k 256 = true := by
  rw [Bool.and_eq_true] at h
  have := (mayL_iff l).1 h.1
  exact ⟨this.1, this.2, penB_k h.2⟩
end Go.Proofs.YtmmkjbcklghopaaDoor
