/- The two parsers tell alike: a control sequence. Conditions: none. -/
import Derived.Test.YtkkcblfoaldckaaVs2
set_option linter.unusedVariables false
set_option linter.unusedSimpArgs false
set_option linter.unusedSectionVars false
set_option maxRecDepth 20000
namespace Go.Proofs.Ytkkcblfoaldckaa
open Go
theorem rOne_csi (P : List Int) (c : Int) (h1 : 32 ≤ c) (h2 : c ≤ 126) : rOne (27 :: 91 :: P) c = if c < 64 then ([], 27 :: 91 :: (P ++ [c])) else (csiT (P ++ [c]) c, []) := by
  unfold rOne
  rw [if_neg (by omega), if_neg (by simp), if_neg (by omega)]
  have e : (27 :: 91 :: P)[1]? = some 91 := rfl
  rw [e]
  simp only
  rw [if_neg (by simp [isStr]), if_neg (by omega), if_neg (by omega), if_pos trivial]
  rfl
theorem go_snoc {P : List Int} {st : CS} (h : csiGo 0 P cs0 = some st) (c : Int) : csiGo 0 (P ++ [c]) cs0 = csiStep P.length c st := by
  rw [csiGo_snoc, h, Nat.zero_add]; rfl
theorem take_min {α : Type} (l : List α) (n : Nat) : l.take (min l.length n) = l.take n := by
  rcases Nat.le_total l.length n with h | h
  · rw [Nat.min_eq_left h, List.take_of_length_le h, List.take_of_length_le (Nat.le_refl _)]
  · rw [Nat.min_eq_right h]
theorem sim_seq0 {P : List Int} {v : Bool} {m : Int} {s : ByteArray} (h : CSim P v m s none) (c : Int) (h1 : 32 ≤ c) (h2 : c ≤ 126) :
    (rOne (27 :: 91 :: P) c).1 = (vtSeq0 P.isEmpty v m s c).1 ∧ Sim (rOne (27 :: 91 :: P) c).2 (vtSeq0 P.isEmpty v m s c).2 := by
  rw [rOne_csi P c h1 h2]
  have em : (P ++ [c]).isEmpty = false := by simp
  cases v with
  | true =>
    have b : Bad P := h
    have b' : Bad (P ++ [c]) := bad_snoc c b
    have t0 : ∀ m s, Sim (27 :: 91 :: (P ++ [c])) (.seq0 false true m s) := fun m s => ⟨P ++ [c], rfl, em.symm, b'⟩
    have t1 : ∀ m s q x, Sim (27 :: 91 :: (P ++ [c])) (.seq1 true m s q x) := fun m s q x => ⟨P ++ [c], rfl, by simp, b'⟩
    unfold vtSeq0
    by_cases k : c < 64
    · rw [if_pos k]
      split
      · refine ⟨rfl, ?_⟩; simp only; split <;> exact t0 _ _
      split
      · exact ⟨rfl, t0 _ _⟩
      split
      · exact ⟨rfl, t0 _ _⟩
      refine ⟨rfl, ?_⟩; simp only; split <;> exact t1 _ _ _ _
    · rw [if_neg k, csiT_bad c b, if_neg (by omega), if_neg (by omega), if_neg (by omega), if_neg k]
      exact ⟨rfl, rfl⟩
  | false =>
    obtain ⟨hg, hs⟩ := h
    have g := go_snoc hg c
    simp only [csiStep] at g
    unfold vtSeq0
    by_cases k0 : c < 48
    · rw [if_pos k0] at g
      rw [if_pos (show c < 64 by omega), if_pos k0]
      refine ⟨rfl, ?_⟩
      simp only
      split
      · rename_i e
        refine ⟨P ++ [c], rfl, em.symm, .inr ⟨_, g, ?_⟩⟩
        rw [ByteArray.size_append, show (byteS c).size = 1 from rfl]; omega
      · rename_i e
        refine ⟨P ++ [c], rfl, em.symm, ?_, ?_⟩
        · rw [g, byte_utf h1 k0]
        · rw [ByteArray.size_append, utf1 h1 k0]; omega
    rw [if_neg k0] at g
    rw [if_neg k0]
    by_cases k1 : 60 ≤ c ∧ c < 64 ∧ P.isEmpty = true
    · rw [if_pos (show c < 64 by omega), if_pos k1]
      have pe : P.length = 0 := by have := k1.2.2; simpa using this
      rw [if_pos ⟨pe, k1.1⟩] at g
      exact ⟨rfl, P ++ [c], rfl, em.symm, g, hs⟩
    rw [if_neg k1]
    have pe : c < 64 → ¬ (P.length = 0 ∧ 60 ≤ c) := fun hc h => k1 ⟨h.2, hc, by simpa using h.1⟩
    by_cases k2 : c = 58 ∨ 60 ≤ c ∧ c < 64 ∨ c < 64 ∧ s.size ≠ 0
    · have k3 : c < 64 := by omega
      rw [if_pos k3, if_pos k2]
      rw [if_neg (pe k3), if_pos (by omega)] at g
      exact ⟨rfl, P ++ [c], rfl, em.symm, .inl g⟩
    rw [if_neg k2]
    by_cases k3 : c < 64
    · rw [if_pos k3, if_pos k3]
      rw [if_neg (pe k3), if_neg (by omega)] at g
      refine ⟨rfl, ?_⟩
      simp only
      by_cases k4 : c = 59
      · rw [if_pos k4]
        rw [if_pos k4] at g
        exact ⟨P ++ [c], rfl, by simp, [0], 0, g, hs, .inl ⟨rfl, rfl, by simp⟩⟩
      · rw [if_neg k4]
        rw [if_neg k4, if_neg (by omega)] at g
        exact ⟨P ++ [c], rfl, by simp, [], _, g, hs, .inl ⟨rfl, by omega, by simp⟩⟩
    · rw [if_neg k3, if_neg k3, csiT_snoc, hg]
      simp only
      rw [if_neg (by omega)]
      exact ⟨rfl, rfl⟩
theorem sim_seq1 {P : List Int} {v : Bool} {m : Int} {s : ByteArray} {q : List Int} {x : Int} (hP : P ≠ []) (h : CSim P v m s (some (q, x))) (c : Int) (h1 : 32 ≤ c) (h2 : c ≤ 126) :
    (rOne (27 :: 91 :: P) c).1 = (vtSeq1 v m s q x c).1 ∧ Sim (rOne (27 :: 91 :: P) c).2 (vtSeq1 v m s q x c).2 := by
  rw [rOne_csi P c h1 h2]
  have ne : P ++ [c] ≠ [] := by simp
  have pl : ¬ P.length = 0 := fun h => hP (List.length_eq_zero_iff.1 h)
  cases v with
  | true =>
    have b : Bad P := h
    have b' : Bad (P ++ [c]) := bad_snoc c b
    have t1 : ∀ m s q x, Sim (27 :: 91 :: (P ++ [c])) (.seq1 true m s q x) := fun m s q x => ⟨P ++ [c], rfl, ne, b'⟩
    unfold vtSeq1
    by_cases k : c < 64
    · rw [if_pos k]
      split
      · refine ⟨rfl, ?_⟩; simp only; split <;> exact t1 _ _ _ _
      split
      · exact ⟨rfl, t1 _ _ _ _⟩
      refine ⟨rfl, ?_⟩
      simp only
      split
      · split <;> exact t1 _ _ _ _
      · exact t1 _ _ _ _
    · rw [if_neg k, csiT_bad c b, if_neg (by omega), if_neg (by omega), if_neg k]
      exact ⟨rfl, rfl⟩
  | false =>
    obtain ⟨all, n, hg, hs, hq⟩ := h
    have g := go_snoc hg c
    simp only [csiStep] at g
    unfold vtSeq1
    by_cases k0 : c < 48
    · rw [if_pos k0] at g
      rw [if_pos (show c < 64 by omega), if_pos k0]
      refine ⟨rfl, ?_⟩
      simp only
      split
      · rename_i e
        refine ⟨P ++ [c], rfl, ne, .inr ⟨_, g, ?_⟩⟩
        rw [ByteArray.size_append, show (byteS c).size = 1 from rfl]; omega
      · rename_i e
        refine ⟨P ++ [c], rfl, ne, all, n, ?_, ?_, hq⟩
        · rw [g, byte_utf h1 k0]
        · rw [ByteArray.size_append, utf1 h1 k0]; omega
    rw [if_neg k0, if_neg (fun h => pl h.1)] at g
    rw [if_neg k0]
    by_cases k2 : c = 58 ∨ 60 ≤ c ∧ c < 64 ∨ c < 64 ∧ s.size ≠ 0
    · have k3 : c < 64 := by omega
      rw [if_pos k3, if_pos k2]
      rw [if_pos (by omega)] at g
      exact ⟨rfl, P ++ [c], rfl, ne, .inl g⟩
    rw [if_neg k2]
    by_cases k3 : c < 64
    · rw [if_pos k3, if_pos k3]
      rw [if_neg (by omega)] at g
      refine ⟨rfl, ?_⟩
      simp only
      by_cases k4 : c = 59
      · rw [if_pos k4]
        rw [if_pos k4] at g
        rcases hq with ⟨rfl, rfl, hl⟩ | ⟨rfl, hl⟩
        · split
          · rename_i k5
            exact ⟨P ++ [c], rfl, ne, _, _, g, hs, .inl ⟨rfl, rfl, by rw [List.length_append, List.length_singleton]; omega⟩⟩
          · rename_i k5
            refine ⟨P ++ [c], rfl, ne, _, _, g, hs, .inr ⟨?_, by rw [List.length_append, List.length_singleton]; omega⟩⟩
            rw [List.take_append_of_le_length (by omega), List.take_of_length_le hl]
        · have tl : (all.take 16).length = 16 := by rw [List.length_take]; omega
          rw [if_neg (by omega)]
          refine ⟨P ++ [c], rfl, ne, _, _, g, hs, .inr ⟨?_, by rw [List.length_append, List.length_singleton]; omega⟩⟩
          rw [List.take_append_of_le_length (by omega)]
      · rw [if_neg k4]
        rw [if_neg k4] at g
        rcases hq with ⟨rfl, rfl, hl⟩ | ⟨rfl, hl⟩
        · refine ⟨P ++ [c], rfl, ne, _, _, g, hs, .inl ⟨rfl, ?_, hl⟩⟩
          split <;> omega
        · exact ⟨P ++ [c], rfl, ne, _, _, g, hs, .inr ⟨rfl, hl⟩⟩
    · rw [if_neg k3, if_neg k3, csiT_snoc, hg]
      simp only
      rw [if_neg (show ¬ 2 < s.size by omega), if_pos trivial, take_min]
      refine ⟨?_, rfl⟩
      have e : (all ++ [n]).take 16 = (q ++ [x]).take 16 := by
        rcases hq with ⟨rfl, rfl, hl⟩ | ⟨rfl, hl⟩
        · rfl
        · have tl : (all.take 16).length = 16 := by rw [List.length_take]; omega
          rw [List.take_append_of_le_length (by omega), List.take_append_of_le_length (by omega), List.take_take]
          simp
      rw [e]; rfl
end Go.Proofs.Ytkkcblfoaldckaa
