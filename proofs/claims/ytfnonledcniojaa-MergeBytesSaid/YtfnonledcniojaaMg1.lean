/- Queues: copied, Size, Push, Pop, Drop. Conditions: as each statement says. -/
import Derived.Test.YtfnonledcniojaaFn
import Derived.Test.YtfnonledcniojaaSzm
set_option linter.unusedVariables false
set_option linter.unusedSimpArgs false
set_option linter.unusedSectionVars false
set_option maxRecDepth 20000
set_option maxHeartbeats 1000000
namespace Go.Proofs.Ytfnonledcniojaa
open Go
variable (G : Nat → Option (List AV))
def okL (q : List Pc) : Prop := q.length ≤ 1000 ∧ ∀ x ∈ q, x.2.2.1.length ≤ 1000
theorem sizeQ_le : ∀ (q : List Pc), (∀ x ∈ q, x.2.2.1.length ≤ 1000) → sizeQ q ≤ q.length * 1000
  | [], _ => by simp [sizeQ]
  | x :: q, h => by
    have h1 := sizeQ_le q (fun y hy => h y (List.mem_cons_of_mem _ hy))
    have h2 := h x (List.mem_cons_self ..)
    have e : sizeQ (x :: q) = x.2.2.1.length + sizeQ q := by simp [sizeQ]
    rw [e, List.length_cons]; omega
end Go.Proofs.Ytfnonledcniojaa
