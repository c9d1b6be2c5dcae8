/- What Parse comes to. Conditions: none. -/
import Derived.Test.YtkkcblfoaldckaaVtB
set_option linter.unusedVariables false
set_option linter.unusedSimpArgs false
set_option linter.unusedSectionVars false
set_option maxRecDepth 20000
set_option maxHeartbeats 4000000
namespace Go.Proofs.Ytkkcblfoaldckaa
open Go
variable (G : Nat → Option (List AV))
theorem actG_len (l : List Act') : (actG l).length = l.length := by simp [actG]
theorem vtOne_nil (c : Int) : vtOne .nil c = if c = 27 then ([], .esc false ⟨#[]⟩) else (wordT c, .nil) := rfl
theorem vtOne_esc (v : Bool) (i : ByteArray) (c : Int) : vtOne (.esc v i) c = if c = 27 then ([], .esc false ⟨#[]⟩) else if c = 24 ∨ c = 26 then (wordT c, .nil) else if 160 ≤ c then (wordT c, .nil) else if c < 32 ∨ c = 127 then (wordT c, .esc v i) else vtEsc v i c := rfl
theorem vtOne_seq0 (f v : Bool) (m : Int) (i : ByteArray) (c : Int) : vtOne (.seq0 f v m i) c = if c = 27 then ([], .esc false ⟨#[]⟩) else if c = 24 ∨ c = 26 then (wordT c, .nil) else if 160 ≤ c then (wordT c, .nil) else if c < 32 ∨ c = 127 then (wordT c, .seq0 f v m i) else vtSeq0 f v m i c := rfl
theorem vtOne_seq1 (v : Bool) (m : Int) (i : ByteArray) (q : List Int) (x c : Int) : vtOne (.seq1 v m i q x) c = if c = 27 then ([], .esc false ⟨#[]⟩) else if c = 24 ∨ c = 26 then (wordT c, .nil) else if 160 ≤ c then (wordT c, .nil) else if c < 32 ∨ c = 127 then (wordT c, .seq1 v m i q x) else vtSeq1 v m i q x c := rfl
theorem vtOne_txt0 (t : Bool) (c : Int) : vtOne (.txt0 t) c = if c = 27 then (vtEnd (.txt0 t), .esc false ⟨#[]⟩) else if c = 24 ∨ c = 26 then (wordT c, .nil) else if c = 7 then (vtEnd (.txt0 t), .nil) else if 32 ≤ c ∧ c ≠ 127 then ([], .txt1 t [c]) else ([], .txt0 t) := rfl
theorem vtOne_txt1 (t : Bool) (ts : List Int) (c : Int) : vtOne (.txt1 t ts) c = if c = 27 then (vtEnd (.txt1 t ts), .esc false ⟨#[]⟩) else if c = 24 ∨ c = 26 then (wordT c, .nil) else if c = 7 then (vtEnd (.txt1 t ts), .nil) else if 32 ≤ c ∧ c ≠ 127 ∧ ts.length < 64 then ([], .txt1 t (ts ++ [c])) else ([], .txt1 t ts) := rfl
theorem put_count (s : VS) (c : Int) : (vtPut s c).1.length ≤ 2 := by
  have hw : ∀ c, (wordT c).length ≤ 1 := fun c => by unfold wordT; split <;> (try split) <;> simp
  have he : ∀ s, (vtEnd s).length ≤ 1 := fun s => by
    cases s with
    | txt0 t => cases t <;> simp [vtEnd]
    | txt1 t ts => cases t <;> simp [vtEnd]
    | _ => simp [vtEnd]
  have h1 : ∀ v s c, (vtEsc v s c).1.length ≤ 1 := fun v s c => by
    unfold vtEsc
    repeat' split
    all_goals simp
  have h2 : ∀ f v m s c, (vtSeq0 f v m s c).1.length ≤ 1 := fun f v m s c => by
    unfold vtSeq0
    repeat' split
    all_goals simp
  have h3 : ∀ v m s q x c, (vtSeq1 v m s q x c).1.length ≤ 1 := fun v m s q x c => by
    unfold vtSeq1
    repeat' split
    all_goals simp
  unfold vtPut
  split
  · rw [List.length_append]
    have := he s
    have := h1 false ⟨#[]⟩ (pointT c - 64)
    omega
  · have w := hw (pointT c)
    have e := he s
    have z : ([] : List Act').length ≤ 2 := by simp
    cases s with
    | nil => rw [vtOne_nil]; split <;> dsimp only <;> first | omega | simp
    | esc v i => rw [vtOne_esc]; have := h1 v i (pointT c); repeat' split
                 all_goals (first | (dsimp only; omega) | omega | simp)
    | seq0 f v m i => rw [vtOne_seq0]; have := h2 f v m i (pointT c); repeat' split
                      all_goals (first | (dsimp only; omega) | omega | simp)
    | seq1 v m i q x => rw [vtOne_seq1]; have := h3 v m i q x (pointT c); repeat' split
                        all_goals (first | (dsimp only; omega) | omega | simp)
    | txt0 t => rw [vtOne_txt0]; repeat' split
                all_goals (first | (dsimp only; omega) | omega | simp)
    | txt1 t ts => rw [vtOne_txt1]; repeat' split
                   all_goals (first | (dsimp only; omega) | omega | simp)
end Go.Proofs.Ytkkcblfoaldckaa
