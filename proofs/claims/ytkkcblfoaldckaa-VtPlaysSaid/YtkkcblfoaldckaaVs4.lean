/- The two parsers tell alike: all that comes. Conditions: none. -/
import Derived.Test.YtkkcblfoaldckaaVs3
set_option linter.unusedVariables false
set_option linter.unusedSimpArgs false
set_option linter.unusedSectionVars false
set_option maxRecDepth 20000
namespace Go.Proofs.Ytkkcblfoaldckaa
open Go
theorem rOne_low (H : List Int) (h0 : H ≠ []) (hs : ∀ d, H[1]? = some d → isStr d = false) (c : Int) (k1 : ¬ c = 27) (k2 : ¬ (c = 24 ∨ c = 26)) (k3 : c < 32 ∨ c = 127) : rOne H c = (wordT c, H) := by
  unfold rOne
  rw [if_neg k1, if_neg h0, if_neg k2]
  split
  · rw [if_pos k3]
  · rename_i d e
    rw [if_neg (by rw [hs d e]; simp), if_pos k3]
theorem rOne_hi (H : List Int) (h0 : H ≠ []) (hs : ∀ d, H[1]? = some d → isStr d = false) (c : Int) (k3 : 160 ≤ c) : rOne H c = (wordT c, []) := by
  unfold rOne
  rw [if_neg (by omega), if_neg h0, if_neg (by omega)]
  split
  · rw [if_neg (by omega), if_pos k3]
  · rename_i d e
    rw [if_neg (by rw [hs d e]; simp), if_neg (by omega), if_pos k3]
theorem rOne_can (H : List Int) (h0 : H ≠ []) (c : Int) (k2 : c = 24 ∨ c = 26) : rOne H c = (wordT c, []) := by
  unfold rOne
  rw [if_neg (by omega), if_neg h0, if_pos k2]
theorem rOne_str (d : Int) (T : List Int) (hd : isStr d = true) (c : Int) (k1 : ¬ c = 27) (k2 : ¬ (c = 24 ∨ c = 26)) : rOne (27 :: d :: T) c = if c = 7 then (rTold (27 :: d :: T), []) else if 32 ≤ c ∧ c ≠ 127 then ([], 27 :: d :: (T ++ [c])) else ([], 27 :: d :: T) := by
  unfold rOne
  rw [if_neg k1, if_neg (by simp), if_neg k2]
  have e : (27 :: d :: T)[1]? = some d := rfl
  rw [e]
  simp only
  rw [if_pos hd]
  rfl
theorem sim_one {H : List Int} {s : VS} (h : Sim H s) (c : Int) (hc : c < 128 ∨ 160 ≤ c) : (rOne H c).1 = (vtOne s c).1 ∧ Sim (rOne H c).2 (vtOne s c).2 := by
  have s27 : Sim [27] (.esc false ⟨#[]⟩) := ⟨[], rfl, by simp, rfl, rfl⟩
  have he := sim_end h
  by_cases k1 : c = 27
  · have r : rOne H c = (rTold H, [27]) := by unfold rOne; rw [if_pos k1]
    rw [r, he]
    cases s with
    | nil => rw [vtOne_nil, if_pos k1]; exact ⟨rfl, s27⟩
    | esc => rw [vtOne_esc, if_pos k1]; exact ⟨rfl, s27⟩
    | seq0 => rw [vtOne_seq0, if_pos k1]; exact ⟨rfl, s27⟩
    | seq1 => rw [vtOne_seq1, if_pos k1]; exact ⟨rfl, s27⟩
    | txt0 => rw [vtOne_txt0, if_pos k1]; exact ⟨rfl, s27⟩
    | txt1 => rw [vtOne_txt1, if_pos k1]; exact ⟨rfl, s27⟩
  have non : ∀ (H : List Int) (s' : VS) (x : List Act' × VS), H ≠ [] → (∀ d, H[1]? = some d → isStr d = false) → Sim H s' → (32 ≤ c → c ≤ 126 → (rOne H c).1 = x.1 ∧ Sim (rOne H c).2 x.2) →
      (rOne H c).1 = (if c = 24 ∨ c = 26 then (wordT c, VS.nil) else if 160 ≤ c then (wordT c, VS.nil) else if c < 32 ∨ c = 127 then (wordT c, s') else x).1 ∧
      Sim (rOne H c).2 (if c = 24 ∨ c = 26 then (wordT c, VS.nil) else if 160 ≤ c then (wordT c, VS.nil) else if c < 32 ∨ c = 127 then (wordT c, s') else x).2 := by
    intro H s' x h0 hs hsim hx
    by_cases k2 : c = 24 ∨ c = 26
    · rw [if_pos k2, rOne_can H h0 c k2]; exact ⟨rfl, rfl⟩
    rw [if_neg k2]
    by_cases k3 : 160 ≤ c
    · rw [if_pos k3, rOne_hi H h0 hs c k3]; exact ⟨rfl, rfl⟩
    rw [if_neg k3]
    by_cases k4 : c < 32 ∨ c = 127
    · rw [if_pos k4, rOne_low H h0 hs c k1 k2 k4]; exact ⟨rfl, hsim⟩
    rw [if_neg k4]
    exact hx (by omega) (by omega)
  cases s with
  | nil =>
    cases h
    rw [vtOne_nil, if_neg k1]
    have r : rOne [] c = (wordT c, []) := by unfold rOne; rw [if_neg k1, if_pos rfl]
    rw [r]; exact ⟨rfl, rfl⟩
  | esc v s =>
    have h' := h
    obtain ⟨I, rfl, hI, rfl, rfl⟩ := h
    rw [vtOne_esc, if_neg k1]
    refine non _ _ _ (by simp) (fun d e => ?_) h' fun a b => sim_esc hI c a b
    cases I with
    | nil => cases e
    | cons y I =>
      cases e
      have := hI d (by simp)
      cases e : isStr d with
      | false => rfl
      | true => have := (isStr_iff d).1 e; omega
  | seq0 f v m s =>
    have h' := h
    obtain ⟨P, rfl, rfl, hC⟩ := h
    rw [vtOne_seq0, if_neg k1]
    exact non _ _ _ (by simp) (fun d e => by cases e; rfl) h' fun a b => sim_seq0 hC c a b
  | seq1 v m s q x =>
    have h' := h
    obtain ⟨P, rfl, hP, hC⟩ := h
    rw [vtOne_seq1, if_neg k1]
    exact non _ _ _ (by simp) (fun d e => by cases e; rfl) h' fun a b => sim_seq1 hP hC c a b
  | txt0 t =>
    obtain ⟨d, rfl, hd, rfl⟩ := h
    rw [vtOne_txt0, if_neg k1]
    by_cases k2 : c = 24 ∨ c = 26
    · rw [if_pos k2, rOne_can _ (by simp) c k2]; exact ⟨rfl, rfl⟩
    rw [if_neg k2, rOne_str d [] hd c k1 k2]
    by_cases k3 : c = 7
    · rw [if_pos k3, if_pos k3, he]; exact ⟨rfl, rfl⟩
    rw [if_neg k3, if_neg k3]
    by_cases k4 : 32 ≤ c ∧ c ≠ 127
    · rw [if_pos k4, if_pos k4]; exact ⟨rfl, d, [c], rfl, by simp, hd, rfl, rfl⟩
    · rw [if_neg k4, if_neg k4]; exact ⟨rfl, d, rfl, hd, rfl⟩
  | txt1 t ts =>
    obtain ⟨d, T, rfl, hT, hd, rfl, rfl⟩ := h
    rw [vtOne_txt1, if_neg k1]
    by_cases k2 : c = 24 ∨ c = 26
    · rw [if_pos k2, rOne_can _ (by simp) c k2]; exact ⟨rfl, rfl⟩
    rw [if_neg k2, rOne_str d T hd c k1 k2]
    by_cases k3 : c = 7
    · rw [if_pos k3, if_pos k3, he]; exact ⟨rfl, rfl⟩
    rw [if_neg k3, if_neg k3]
    by_cases k4 : 32 ≤ c ∧ c ≠ 127
    · rw [if_pos k4]
      by_cases k5 : (T.take 64).length < 64
      · rw [if_pos ⟨k4.1, k4.2, k5⟩]
        have tl : T.length < 64 := by rw [List.length_take] at k5; omega
        refine ⟨rfl, d, T ++ [c], rfl, by simp, hd, rfl, ?_⟩
        rw [List.take_of_length_le (by omega), List.take_of_length_le (by simp; omega)]
      · rw [if_neg (fun h => k5 h.2.2)]
        have tl : 64 ≤ T.length := by rw [List.length_take] at k5; omega
        exact ⟨rfl, d, T ++ [c], rfl, by simp, hd, rfl, by rw [List.take_append_of_le_length tl]⟩
    · rw [if_neg k4, if_neg (fun h => k4 ⟨h.1, h.2.1⟩)]; exact ⟨rfl, d, T, rfl, hT, hd, rfl, rfl⟩
theorem sim_put {H : List Int} {s : VS} (h : Sim H s) (c : Int) : (rPut H c).1 = (vtPut s c).1 ∧ Sim (rPut H c).2 (vtPut s c).2 := by
  unfold rPut vtPut
  by_cases hc : 128 ≤ pointT c ∧ pointT c < 160
  · rw [if_pos hc, if_pos hc, sim_end h]
    obtain ⟨e1, e2⟩ := sim_esc (I := []) (by simp) (pointT c - 64) (by omega) (by omega)
    refine ⟨?_, e2⟩
    simp only
    rw [e1]; rfl
  · rw [if_neg hc, if_neg hc]
    exact sim_one h _ (by omega)
end Go.Proofs.Ytkkcblfoaldckaa
