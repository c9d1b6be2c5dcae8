/- Queues: plain laws; great, known. Conditions: as each statement says. -/
import Derived.Test.YthcnhibjddomdaaGreatMg1
import Derived.KernelRfl
set_option linter.unusedVariables false
set_option linter.unusedSimpArgs false
set_option linter.unusedSectionVars false
set_option maxRecDepth 20000
set_option maxHeartbeats 1000000
namespace Go.Proofs.YthcnhibjddomdaaGreat
open Go
variable (G : Nat → Option (List AV))
def pcB (x : Pc) : Bool := pieceB x.1 x.2.1 x.2.2.1.length
theorem sizeQ_cons (x : Pc) (q : List Pc) : sizeQ (x :: q) = x.2.2.1.length + sizeQ q := by simp [sizeQ]
theorem sizeQ_app (a b : List Pc) : sizeQ (a ++ b) = sizeQ a + sizeQ b := by simp [sizeQ]
theorem mayQ_iff : ∀ (q : List Pc) (n : Int), n ≤ 64 → (mayQ n q = true ↔ (∀ x ∈ q, pcB x = true) ∧ n + sizeQ q ≤ 64)
  | [], n, h => by simp [mayQ, sizeQ]; omega
  | x :: q, n, h => by
    rw [mayQ, Bool.and_eq_true, Bool.and_eq_true, decide_eq_true_eq, sizeQ_cons]
    constructor
    · rintro ⟨⟨h1, h2⟩, h3⟩
      obtain ⟨h4, h5⟩ := (mayQ_iff q _ h2).1 h3
      refine ⟨fun y hy => ?_, by omega⟩
      rcases List.mem_cons.1 hy with rfl | hy
      · exact h1
      · exact h4 y hy
    · rintro ⟨h1, h2⟩
      have h3 : n + x.2.2.1.length ≤ 64 := by omega
      exact ⟨⟨h1 x (List.mem_cons_self ..), h3⟩, (mayQ_iff q _ h3).2 ⟨fun y hy => h1 y (List.mem_cons_of_mem _ hy), by omega⟩⟩
theorem may0_iff (q : List Pc) : mayQ 0 q = true ↔ (∀ x ∈ q, pcB x = true) ∧ sizeQ q ≤ 64 := by
  rw [mayQ_iff q 0 (by omega)]; constructor <;> rintro ⟨h1, h2⟩ <;> exact ⟨h1, by omega⟩
theorem sizeQ_split (q : List Pc) (k : Nat) : sizeQ (q.take k) + sizeQ (q.drop k) = sizeQ q := by rw [← sizeQ_app, List.take_append_drop]
/-! ### great -/
end Go.Proofs.YthcnhibjddomdaaGreat
