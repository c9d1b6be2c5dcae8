/- The document's parser: Parse, whole. Conditions: none. -/
import Derived.Test.YtkkcblfoaldckaaVrB
set_option linter.unusedVariables false
set_option linter.unusedSimpArgs false
set_option linter.unusedSectionVars false
set_option maxRecDepth 20000
set_option maxHeartbeats 4000000
namespace Go.Proofs.Ytkkcblfoaldckaa
open Go
variable (G : Nat → Option (List AV)) (g : Nat) (es : List (List AV)) (fl : Bool)
/-- What is held may be, after i points. -/
def rInv (i : Nat) (H : List Int) : Prop := H.length ≤ i + 2 ∧ (∀ x ∈ H, x < 1000 ∨ ∃ d, H[1]? = some d ∧ isStr d = true)
theorem rinv_one (i : Nat) (H : List Int) (c : Int) (h : rInv i H) : rInv (i + 1) (rOne H c).2 := by
  obtain ⟨h1, h2⟩ := h
  have n : rInv (i + 1) [] := ⟨by simp, fun x h => by cases h⟩
  have k : rInv (i + 1) H := ⟨by omega, h2⟩
  have s27 : rInv (i + 1) [27] := ⟨by simp, fun x h => by simp at h; subst h; exact .inl (by omega)⟩
  unfold rOne
  split
  · exact s27
  split
  · exact n
  split
  · exact n
  rename_i hne _
  have len : ∀ c : Int, (H ++ [c]).length ≤ i + 1 + 2 := fun c => by rw [List.length_append, List.length_singleton]; omega
  cases hd : H[1]? with
  | none =>
    simp only
    split
    · exact k
    split
    · exact n
    split
    · rename_i k1 k2 k3
      refine ⟨len c, fun x hx => .inl ?_⟩
      rcases List.mem_append.1 hx with h | h
      · rcases h2 x h with h | ⟨d, e, _⟩
        · exact h
        · rw [hd] at e; cases e
      · simp at h; omega
    · exact n
  | some d =>
    simp only
    have hd' : ∀ c : Int, (H ++ [c])[1]? = some d := fun c => by
      rw [List.getElem?_append_left (List.getElem?_eq_some_iff.1 hd).1]; exact hd
    split
    · rename_i hs
      split
      · exact n
      split
      · exact ⟨len c, fun x _ => .inr ⟨d, hd' c, hs⟩⟩
      · exact k
    · rename_i hs
      have ap : c < 160 → rInv (i + 1) (H ++ [c]) := fun hc => ⟨len c, fun x hx => .inl (by
        rcases List.mem_append.1 hx with h | h
        · rcases h2 x h with h | ⟨d', e, h⟩
          · exact h
          · rw [hd] at e; cases e; exact absurd h hs
        · simp at h; omega)⟩
      split
      · exact k
      split
      · exact n
      split
      · split
        · exact ap (by omega)
        · exact n
      · split
        · exact ap (by omega)
        · exact n
theorem rinv_put (i : Nat) (H : List Int) (c : Int) (h : rInv i H) : rInv (i + 1) (rPut H c).2 := by
  unfold rPut
  split
  · exact rinv_one i [27] _ ⟨by simp, fun x h => by simp at h; subst h; exact .inl (by omega)⟩
  · exact rinv_one i H _ h
end Go.Proofs.Ytkkcblfoaldckaa
