/- Queues: copied, Size, Push, Pop, Drop. Conditions: as each statement says. -/
import Derived.Test.YthcnhibjddomdaaGreatFn
import Derived.Test.YthcnhibjddomdaaGreatSzm
set_option linter.unusedVariables false
set_option linter.unusedSimpArgs false
set_option linter.unusedSectionVars false
set_option maxRecDepth 20000
set_option maxHeartbeats 1000000
namespace Go.Proofs.YthcnhibjddomdaaGreat
open Go
variable (G : Nat → Option (List AV))
def okL (q : List Pc) : Prop := q.length ≤ 1000 ∧ ∀ x ∈ q, x.2.2.1.length ≤ 1000
theorem qmay_P (q : List Pc) (h : okL q) (b f : Bool) : aP G FT n_merge_May [.data b 3 (pcs q) f] = some (.bool (mayQ 0 q)) := may_any G FT rfl rfl q b f (by have := h.1; omega) (fun x hx => by have := h.2 x hx; omega)
theorem sizeQ_le : ∀ (q : List Pc), (∀ x ∈ q, x.2.2.1.length ≤ 1000) → sizeQ q ≤ q.length * 1000
  | [], _ => by simp [sizeQ]
  | x :: q, h => by
    have h1 := sizeQ_le q (fun y hy => h y (List.mem_cons_of_mem _ hy))
    have h2 := h x (List.mem_cons_self ..)
    have e : sizeQ (x :: q) = x.2.2.1.length + sizeQ q := by simp [sizeQ]
    rw [e, List.length_cons]; omega
/-- A copy. -/
def cp (x : Pc) : Pc := (x.1, x.2.1, x.2.2.1, false)
def cpQ (q : List Pc) : List Pc := q.map cp
theorem cpQ_len (q : List Pc) : (cpQ q).length = q.length := by simp [cpQ]
theorem pcs_append (a b : List Pc) : pcs (a ++ b) = pcs a ++ pcs b := by simp [pcs]
end Go.Proofs.YthcnhibjddomdaaGreat
