/- What one code point makes of the parser, whole. Conditions: none. -/
import Derived.Test.YtkkcblfoaldckaaVt8
set_option linter.unusedVariables false
set_option linter.unusedSimpArgs false
set_option linter.unusedSectionVars false
set_option maxRecDepth 20000
set_option maxHeartbeats 4000000
namespace Go.Proofs.Ytkkcblfoaldckaa
open Go
variable (G : Nat → Option (List AV)) (o : ARow) (fl : Bool)
theorem size0 {s : ByteArray} (z : s.size = 0) : s = ⟨#[]⟩ := by
  obtain ⟨d⟩ := s
  obtain ⟨d⟩ := d
  cases d with
  | nil => rfl
  | cons => simp [ByteArray.size] at z
/-- A state may be. -/
def vtOk2 : VS → Prop
  | .esc v s => s.size ≤ 2 ∧ (v = true → s.size = 2)
  | .seq0 _ _ _ s => s.size ≤ 2
  | .seq1 _ _ s q x => s.size ≤ 2 ∧ q.length ≤ 16 ∧ (∀ y ∈ q, 0 ≤ y ∧ y ≤ 9999) ∧ 0 ≤ x ∧ x ≤ 9999
  | .txt1 _ ts => ts.length ≤ 64
  | _ => True
end Go.Proofs.Ytkkcblfoaldckaa
