/- VtLimits: the law. Conditions: none. -/
import Derived.Test.YtkkcblfoaldckaaVtD
set_option linter.unusedVariables false
set_option linter.unusedSimpArgs false
set_option linter.unusedSectionVars false
set_option maxRecDepth 20000
set_option maxHeartbeats 4000000
namespace Go.Proofs.Ytkkcblfoaldckaa
open Go
variable (G : Nat → Option (List AV))
theorem run_count : ∀ (l : List Int) (s : VS), (vtRun s l).length ≤ 2 * l.length
  | [], _ => by simp [vtRun]
  | c :: l, s => by
    rw [vtRun, List.length_append, List.length_cons]
    have := put_count s c
    have := run_count l (vtPut s c).2
    omega
end Go.Proofs.Ytkkcblfoaldckaa
