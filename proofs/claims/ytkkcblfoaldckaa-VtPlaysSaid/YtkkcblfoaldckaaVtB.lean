/- What Put tells and makes of the parser, from any state. Conditions: none. -/
import Derived.Test.YtkkcblfoaldckaaVtA
set_option linter.unusedVariables false
set_option linter.unusedSimpArgs false
set_option linter.unusedSectionVars false
set_option maxRecDepth 20000
set_option maxHeartbeats 4000000
namespace Go.Proofs.Ytkkcblfoaldckaa
open Go
variable (G : Nat → Option (List AV)) (o : ARow) (fl : Bool)
def vtPut (s : VS) (c : Int) : List Act' × VS :=
  if 128 ≤ pointT c ∧ pointT c < 160 then (vtEnd s ++ (vtEsc false ⟨#[]⟩ (pointT c - 64)).1, (vtEsc false ⟨#[]⟩ (pointT c - 64)).2) else vtOne s (pointT c)
/-- The states stay such as may be. -/
theorem esc_ok2 (v : Bool) (s : ByteArray) (c : Int) (ok : vtOk2 (.esc v s)) (h1 : 32 ≤ c) : vtOk2 (vtEsc v s c).2 := by
  obtain ⟨hs, hv⟩ := ok
  unfold vtEsc
  split
  · rename_i k
    simp only
    split
    · rename_i e; exact ⟨by omega, fun _ => e⟩
    · rename_i e
      exact ⟨by rw [ByteArray.size_append, utf1 h1 k]; omega, fun h => absurd (hv h) e⟩
  split
  · show (0 : Nat) ≤ 2; omega
  split
  · trivial
  split
  · trivial
  · trivial
theorem seq0_ok2 (f v : Bool) (m : Int) (s : ByteArray) (c : Int) (hs : s.size ≤ 2) (h1 : 32 ≤ c) : vtOk2 (vtSeq0 f v m s c).2 := by
  unfold vtSeq0
  split
  · rename_i k
    simp only
    split
    · exact hs
    · show (s ++ Utf8.encode c).size ≤ 2
      rw [ByteArray.size_append, utf1 h1 k]; omega
  split
  · exact hs
  split
  · exact hs
  split
  · simp only
    split
    · exact ⟨hs, by simp, by simp, by omega, by omega⟩
    · exact ⟨hs, by simp, by simp, by omega, by omega⟩
  · trivial
theorem seq1_ok2 (v : Bool) (m : Int) (s : ByteArray) (q : List Int) (x : Int) (c : Int) (ok : vtOk2 (.seq1 v m s q x)) (h1 : 32 ≤ c) : vtOk2 (vtSeq1 v m s q x c).2 := by
  obtain ⟨hs, hq, hqs, hx, hx2⟩ := ok
  unfold vtSeq1
  split
  · rename_i k
    simp only
    split
    · exact ⟨hs, hq, hqs, hx, hx2⟩
    · exact ⟨by rw [ByteArray.size_append, utf1 h1 k]; omega, hq, hqs, hx, hx2⟩
  split
  · exact ⟨hs, hq, hqs, hx, hx2⟩
  split
  · simp only
    split
    · split
      · refine ⟨hs, by simp; omega, fun y hy => ?_, by omega, by omega⟩
        rcases List.mem_append.1 hy with h | h
        · exact hqs y h
        · simp at h; subst h; exact ⟨hx, hx2⟩
      · exact ⟨hs, hq, hqs, hx, hx2⟩
    · exact ⟨hs, hq, hqs, by omega, by omega⟩
  · trivial
theorem one_ok2 (s : VS) (ok : vtOk2 s) (c : Int) : vtOk2 (vtOne s c).2 := by
  have e0 : vtOk2 (.esc false ⟨#[]⟩) := ⟨by show (0 : Nat) ≤ 2; omega, fun h => by cases h⟩
  have low : ∀ (s' : VS) (x : List Act' × VS), vtOk2 s' → (32 ≤ c → vtOk2 x.2) → vtOk2 (if 160 ≤ c then (wordT c, VS.nil) else if c < 32 ∨ c = 127 then (wordT c, s') else x).2 := by
    intro s' x h hx
    split
    · trivial
    split
    · exact h
    · exact hx (by omega)
  unfold vtOne
  cases s with
  | nil =>
    rw [if_pos rfl]
    split
    · exact e0
    · trivial
  | esc v i =>
    rw [if_neg (by simp)]
    split
    · exact e0
    split
    · trivial
    · exact low (.esc v i) _ ok fun h => esc_ok2 _ _ _ ok h
  | seq0 f v m i =>
    rw [if_neg (by simp)]
    split
    · exact e0
    split
    · trivial
    · exact low (.seq0 f v m i) _ ok fun h => seq0_ok2 _ _ _ _ _ ok h
  | seq1 v m i q x =>
    rw [if_neg (by simp)]
    split
    · exact e0
    split
    · trivial
    · exact low (.seq1 v m i q x) _ ok fun h => seq1_ok2 _ _ _ _ _ _ ok h
  | txt0 t =>
    rw [if_neg (by simp)]
    split
    · exact e0
    split
    · trivial
    simp only
    split
    · trivial
    split
    · show [c].length ≤ 64; simp
    · exact ok
  | txt1 t ts =>
    rw [if_neg (by simp)]
    split
    · exact e0
    split
    · trivial
    simp only
    split
    · trivial
    split
    · rename_i k; show (ts ++ [c]).length ≤ 64; rw [List.length_append]; simp; omega
    · exact ok
theorem put_ok2 (s : VS) (ok : vtOk2 s) (c : Int) : vtOk2 (vtPut s c).2 := by
  unfold vtPut
  split
  · exact esc_ok2 _ _ _ ⟨by show (0 : Nat) ≤ 2; omega, fun h => by cases h⟩ (by omega)
  · exact one_ok2 s ok _
end Go.Proofs.Ytkkcblfoaldckaa
