/- VtLimits: the law. Conditions: none. -/
import Derived.Test.YtkkcblfoaldckaaVtD
set_option linter.unusedVariables false
set_option linter.unusedSimpArgs false
set_option linter.unusedSectionVars false
set_option maxRecDepth 20000
set_option maxHeartbeats 4000000
namespace Go.Proofs.Ytkkcblfoaldckaa
open Go
variable (G : Nat → Option (List AV))
/-- What an action may be. -/
def Lim (a : Act') : Prop :=
  (∃ c, a = actC 1 c ∧ 32 ≤ c ∧ ¬ (127 ≤ c ∧ c < 160)) ∨ (∃ c, a = actC 2 c ∧ c ≤ 31 ∧ c ≠ 27) ∨ (∃ c s, a = escA c s ∧ 48 ≤ c ∧ c ≤ 126 ∧ s.size ≤ 2) ∨
  (∃ c m s ps pf, a = csiA c m s ps pf ∧ 64 ≤ c ∧ c ≤ 126 ∧ s.size ≤ 2 ∧ ps.length ≤ 16 ∧ ∀ y ∈ ps, 0 ≤ y ∧ y ≤ 9999) ∨ ∃ ts, a = oscT ts ∧ ts.length ≤ 64
theorem word_lim (c : Int) (h : ¬ c = 27) (hc : c < 128 ∨ 160 ≤ c) : ∀ a ∈ wordT c, Lim a := by
  unfold wordT
  intro a ha
  split at ha
  · cases ha
  split at ha
  · simp at ha; exact .inr (.inl ⟨c, ha, by omega, h⟩)
  · simp at ha; exact .inl ⟨c, ha, by omega, by omega⟩
theorem end_lim (s : VS) (ok : vtOk2 s) : ∀ a ∈ vtEnd s, Lim a := by
  intro a ha
  cases s with
  | txt0 t =>
    cases t with
    | false => cases ha
    | true => simp [vtEnd] at ha; exact .inr (.inr (.inr (.inr ⟨[], ha, by simp⟩)))
  | txt1 t ts =>
    cases t with
    | false => cases ha
    | true => simp [vtEnd] at ha; exact .inr (.inr (.inr (.inr ⟨ts, ha, ok⟩)))
  | _ => cases ha
theorem esc_lim (v : Bool) (s : ByteArray) (c : Int) (hs : s.size ≤ 2) (hc : c ≤ 126) : ∀ a ∈ (vtEsc v s c).1, Lim a := by
  intro a ha
  unfold vtEsc at ha
  split at ha
  · cases ha
  split at ha
  · cases ha
  split at ha
  · cases ha
  split at ha
  · cases ha
  · cases v with
    | true => cases ha
    | false => simp at ha; exact .inr (.inr (.inl ⟨c, s, ha, by omega, hc, hs⟩))
theorem seq0_lim (f v : Bool) (m : Int) (s : ByteArray) (c : Int) (hs : s.size ≤ 2) (hc : c ≤ 126) : ∀ a ∈ (vtSeq0 f v m s c).1, Lim a := by
  intro a ha
  unfold vtSeq0 at ha
  split at ha
  · cases ha
  split at ha
  · cases ha
  split at ha
  · cases ha
  split at ha
  · cases ha
  · cases v with
    | true => cases ha
    | false => simp at ha; exact .inr (.inr (.inr (.inl ⟨c, m, s, [], true, ha, by omega, hc, hs, by simp, by simp⟩)))
theorem seq1_lim (v : Bool) (m : Int) (s : ByteArray) (q : List Int) (x : Int) (c : Int) (ok : vtOk2 (.seq1 v m s q x)) (hc : c ≤ 126) : ∀ a ∈ (vtSeq1 v m s q x c).1, Lim a := by
  obtain ⟨hs, hq, hqs, hx, hx2⟩ := ok
  intro a ha
  unfold vtSeq1 at ha
  split at ha
  · cases ha
  split at ha
  · cases ha
  split at ha
  · cases ha
  · cases v with
    | true => cases ha
    | false =>
      simp only [Bool.false_eq_true, if_false, List.mem_singleton] at ha
      refine .inr (.inr (.inr (.inl ⟨c, m, s, _, false, ha, by omega, hc, hs, by rw [List.length_take]; omega, fun y hy => ?_⟩)))
      rcases List.mem_append.1 (List.mem_of_mem_take hy) with h | h
      · exact hqs y h
      · simp at h; subst h; exact ⟨hx, hx2⟩
theorem one_lim (s : VS) (ok : vtOk2 s) (c : Int) (hc : c < 128 ∨ 160 ≤ c) : ∀ a ∈ (vtOne s c).1, Lim a := by
  have e := end_lim s ok
  have z : ∀ a ∈ ([] : List Act'), Lim a := fun a h => by cases h
  have low : ∀ (s' : VS) (x : List Act' × VS), ¬ c = 27 → (c ≤ 126 → ∀ a ∈ x.1, Lim a) → ∀ a ∈ (if 160 ≤ c then (wordT c, VS.nil) else if c < 32 ∨ c = 127 then (wordT c, s') else x).1, Lim a := by
    intro s' x h hx
    split
    · exact word_lim c h hc
    split
    · exact word_lim c h hc
    · exact hx (by omega)
  by_cases h27 : c = 27
  · cases s with
    | nil => rw [vtOne_nil, if_pos h27]; exact z
    | esc v i => rw [vtOne_esc, if_pos h27]; exact z
    | seq0 f v m i => rw [vtOne_seq0, if_pos h27]; exact z
    | seq1 v m i q x => rw [vtOne_seq1, if_pos h27]; exact z
    | txt0 t => rw [vtOne_txt0, if_pos h27]; exact e
    | txt1 t ts => rw [vtOne_txt1, if_pos h27]; exact e
  have w := word_lim c h27 hc
  cases s with
  | nil => rw [vtOne_nil, if_neg h27]; exact w
  | esc v i =>
    rw [vtOne_esc, if_neg h27]
    split
    · exact w
    · exact low _ _ h27 fun h => esc_lim _ _ _ ok.1 h
  | seq0 f v m i =>
    rw [vtOne_seq0, if_neg h27]
    split
    · exact w
    · exact low _ _ h27 fun h => seq0_lim _ _ _ _ _ ok h
  | seq1 v m i q x =>
    rw [vtOne_seq1, if_neg h27]
    split
    · exact w
    · exact low _ _ h27 fun h => seq1_lim _ _ _ _ _ _ ok h
  | txt0 t =>
    rw [vtOne_txt0, if_neg h27]
    split
    · exact w
    split
    · exact e
    split <;> exact z
  | txt1 t ts =>
    rw [vtOne_txt1, if_neg h27]
    split
    · exact w
    split
    · exact e
    split <;> exact z
theorem put_lim (s : VS) (ok : vtOk2 s) (c : Int) : ∀ a ∈ (vtPut s c).1, Lim a := by
  unfold vtPut
  split
  · intro a ha
    rcases List.mem_append.1 ha with h | h
    · exact end_lim s ok a h
    · exact esc_lim _ _ _ (by show (0 : Nat) ≤ 2; omega) (by omega) a h
  · exact one_lim s ok _ (by omega)
end Go.Proofs.Ytkkcblfoaldckaa
