/- The document's parser: Parse. Conditions: none. -/
import Derived.Test.YtkkcblfoaldckaaVrA
set_option linter.unusedVariables false
set_option linter.unusedSimpArgs false
set_option linter.unusedSectionVars false
set_option maxRecDepth 20000
set_option maxHeartbeats 4000000
namespace Go.Proofs.Ytkkcblfoaldckaa
open Go
variable (G : Nat → Option (List AV)) (g : Nat) (es : List (List AV)) (fl : Bool)
def rPut (H : List Int) (c : Int) : List Act' × List Int :=
  if 128 ≤ pointT c ∧ pointT c < 160 then (rTold H ++ (rOne [27] (pointT c - 64)).1, (rOne [27] (pointT c - 64)).2) else rOne H (pointT c)
theorem rone_second (c : Int) (h1 : 64 ≤ c) (h2 : c < 96) : (rOne [27] c = ([], [27, c]) ∧ (c = 91 ∨ isStr c = true)) ∨ (rOne [27] c = ([escA c ⟨#[]⟩], []) ∧ ¬ c = 91 ∧ isStr c = false) := by
  unfold rOne
  rw [if_neg (by omega), if_neg (by simp), if_neg (by omega)]
  simp only [List.getElem?_cons_succ, List.getElem?_nil]
  rw [if_neg (by omega), if_neg (by omega)]
  by_cases k : c = 91 ∨ isStr c = true
  · rw [if_pos (by rcases k with k | k; exact .inr (.inl k); exact .inr (.inr k))]
    exact .inl ⟨rfl, k⟩
  · rw [if_neg (by rintro (h | h | h); omega; exact k (.inl h); exact k (.inr h))]
    exact .inr ⟨rfl, fun h => k (.inl h), by simpa using fun h => k (.inr h)⟩
end Go.Proofs.Ytkkcblfoaldckaa
