/- The two parsers tell alike: one code point. Conditions: none. -/
import Derived.Test.YtkkcblfoaldckaaVs1
set_option linter.unusedVariables false
set_option linter.unusedSimpArgs false
set_option linter.unusedSectionVars false
set_option maxRecDepth 20000
namespace Go.Proofs.Ytkkcblfoaldckaa
open Go
theorem isStr_iff (d : Int) : isStr d = true ↔ d = 93 ∨ d = 80 ∨ d = 88 ∨ d = 94 ∨ d = 95 := by
  simp only [isStr, Bool.or_eq_true, decide_eq_true_eq]
  omega
/-- The escape's step. -/
theorem sim_esc {I : List Int} (hI : ∀ c ∈ I, 32 ≤ c ∧ c < 48) (c : Int) (h1 : 32 ≤ c) (h2 : c ≤ 126) :
    (rOne (27 :: I) c).1 = (vtEsc (decide (2 < I.length)) (bytesS (I.take 2)) c).1 ∧ Sim (rOne (27 :: I) c).2 (vtEsc (decide (2 < I.length)) (bytesS (I.take 2)) c).2 := by
  have sz : (bytesS (I.take 2)).size = min 2 I.length := by rw [bytesS_size, List.length_take]
  have fold : ∀ z, escT (I ++ [z]) z = if 2 < I.length then [] else [escA z (bytesS I)] := fun z => by
    unfold escT
    have e1 : (I ++ [z]).length - 1 = I.length := by simp
    rw [e1]
    have e2 : (I ++ [z]).take I.length = I := by simp
    rw [e2]; rfl
  unfold rOne
  rw [if_neg (by omega), if_neg (by simp), if_neg (by omega)]
  unfold vtEsc
  have mid : c < 48 → Sim (27 :: I ++ [c]) (if (bytesS (I.take 2)).size = 2 then .esc true (bytesS (I.take 2)) else .esc (decide (2 < I.length)) (bytesS (I.take 2) ++ Utf8.encode c)) := fun hc => by
    have hI' : ∀ x ∈ I ++ [c], 32 ≤ x ∧ x < 48 := fun x hx => by
      rcases List.mem_append.1 hx with h | h
      · exact hI x h
      · simp at h; omega
    split
    · rename_i e
      rw [sz] at e
      refine ⟨I ++ [c], rfl, hI', ?_, ?_⟩
      · rw [List.length_append, List.length_singleton]; simp; omega
      · rw [List.take_append_of_le_length (by omega)]
    · rename_i e
      rw [sz] at e
      refine ⟨I ++ [c], rfl, hI', ?_, ?_⟩
      · rw [List.length_append, List.length_singleton]
        have a1 : ¬ 2 < I.length := by omega
        have a2 : ¬ 2 < I.length + 1 := by omega
        simp [a1, a2]
      · rw [List.take_of_length_le (by omega), List.take_of_length_le (by simp; omega), bytesS_snoc, byte_utf h1 hc]
  cases I with
  | nil =>
    simp only [List.getElem?_cons_succ, List.getElem?_nil]
    rw [if_neg (by omega), if_neg (by omega)]
    by_cases k0 : c < 48
    · rw [if_pos (.inl k0), if_pos k0]; exact ⟨rfl, mid k0⟩
    rw [if_neg k0]
    have z : (bytesS (([] : List Int).take 2)).size = 0 := rfl
    by_cases k1 : c = 91
    · rw [if_pos (.inr (.inl k1)), if_pos ⟨z, k1⟩]
      subst k1
      exact ⟨rfl, [], rfl, rfl, rfl, by show (0 : Nat) ≤ 2; omega⟩
    have n1 : ¬ ((bytesS (([] : List Int).take 2)).size = 0 ∧ c = 91) := fun h => k1 h.2
    by_cases k2 : c = 93
    · subst k2
      rw [if_pos (.inr (.inr rfl)), if_neg n1, if_pos ⟨z, rfl⟩]
      exact ⟨rfl, 93, rfl, rfl, rfl⟩
    have n2 : ¬ ((bytesS (([] : List Int).take 2)).size = 0 ∧ c = 93) := fun h => k2 h.2
    by_cases k3 : c = 80 ∨ c = 88 ∨ c = 94 ∨ c = 95
    · rw [if_pos (.inr (.inr ((isStr_iff c).2 (.inr k3)))), if_neg n1, if_neg n2, if_pos ⟨z, k3⟩]
      exact ⟨rfl, c, rfl, (isStr_iff c).2 (.inr k3), by simp [k2]⟩
    · have n3 : ¬ ((bytesS (([] : List Int).take 2)).size = 0 ∧ (c = 80 ∨ c = 88 ∨ c = 94 ∨ c = 95)) := fun h => k3 h.2
      have n0 : ¬ (c < 48 ∨ c = 91 ∨ isStr c = true) := by
        rintro (h | h | h)
        · exact k0 h
        · exact k1 h
        · rcases (isStr_iff c).1 h with h | h
          · exact k2 h
          · exact k3 h
      rw [if_neg n0, if_neg n1, if_neg n2, if_neg n3]
      exact ⟨rfl, rfl⟩
  | cons d I =>
    have hd := hI d (by simp)
    simp only [List.getElem?_cons_succ, List.getElem?_cons_zero]
    have nd : isStr d = false := by
      cases h : isStr d with
      | false => rfl
      | true => have := (isStr_iff d).1 h; omega
    rw [if_neg (by rw [nd]; simp), if_neg (by omega), if_neg (by omega), if_neg (by omega)]
    by_cases k0 : c < 48
    · rw [if_pos k0, if_pos k0]; exact ⟨rfl, mid k0⟩
    rw [if_neg k0, if_neg k0]
    have z : ¬ (bytesS ((d :: I).take 2)).size = 0 := by rw [sz, List.length_cons]; omega
    rw [if_neg (fun h => z h.1), if_neg (fun h => z h.1), if_neg (fun h => z h.1)]
    refine ⟨?_, rfl⟩
    have f := fold c
    rw [show (27 :: d :: I ++ [c]).drop 1 = d :: I ++ [c] from rfl, f]
    by_cases k : 2 < (d :: I).length
    · rw [if_pos k]; simp only [k, decide_true, if_true]
    · rw [if_neg k]
      have : decide (2 < (d :: I).length) = false := by simpa using k
      rw [this, List.take_of_length_le (by omega)]; rfl
end Go.Proofs.Ytkkcblfoaldckaa
