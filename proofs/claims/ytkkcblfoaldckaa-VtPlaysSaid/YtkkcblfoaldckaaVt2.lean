/- What the parser's steps come to: an escape. Conditions: none. -/
import Derived.Test.YtkkcblfoaldckaaVt1
set_option linter.unusedVariables false
set_option linter.unusedSimpArgs false
set_option linter.unusedSectionVars false
set_option maxRecDepth 20000
set_option maxHeartbeats 2000000
namespace Go.Proofs.Ytkkcblfoaldckaa
open Go
variable (G : Nat → Option (List AV)) (o : ARow) (fl : Bool) (R : List ARow)
theorem app_at (R : List ARow) (x : ARow) : (R ++ [x])[R.length]? = some x := by simp
theorem app_set (R : List ARow) (x y : ARow) : (R ++ [x]).set R.length y = R ++ [y] := by simp
theorem app_at2 (R : List ARow) (x y : ARow) : (R ++ [x] ++ [y])[R.length + 1]? = some y := by rw [List.getElem?_append_right (by simp)]; simp
theorem app_at1 (R : List ARow) (x y : ARow) : (R ++ [x] ++ [y])[R.length]? = some x := by simp
theorem app_len (R : List ARow) (x : ARow) : (R ++ [x]).length = R.length + 1 := by simp
theorem ba_ne {s : ByteArray} (h : ¬ s.size = 0) : (s == { data := #[] }) = false := by
  obtain ⟨d⟩ := s
  show (d == #[]) = false
  rw [beq_eq_false_iff_ne]
  rintro rfl
  exact h rfl
theorem utf1 {c : Int} (h : 32 ≤ c) (h2 : c < 48) : (Utf8.encode c).size = 1 := by
  have : c = 32 ∨ c = 33 ∨ c = 34 ∨ c = 35 ∨ c = 36 ∨ c = 37 ∨ c = 38 ∨ c = 39 ∨ c = 40 ∨ c = 41 ∨ c = 42 ∨ c = 43 ∨ c = 44 ∨ c = 45 ∨ c = 46 ∨ c = 47 := by omega
  rcases this with h | h | h | h | h | h | h | h | h | h | h | h | h | h | h | h <;> subst h <;> decide

end Go.Proofs.Ytkkcblfoaldckaa
