/- Queues: plain laws; great, known. Conditions: as each statement says. -/
import Derived.Test.YthcnhibjddomdaaMg1
import Derived.KernelRfl
set_option linter.unusedVariables false
set_option linter.unusedSimpArgs false
set_option linter.unusedSectionVars false
set_option maxRecDepth 20000
set_option maxHeartbeats 1000000
namespace Go.Proofs.Ythcnhibjddomdaa
open Go
variable (G : Nat → Option (List AV))
def pcB (x : Pc) : Bool := pieceB x.1 x.2.1 x.2.2.1.length
theorem sizeQ_cons (x : Pc) (q : List Pc) : sizeQ (x :: q) = x.2.2.1.length + sizeQ q := by simp [sizeQ]
theorem sizeQ_app (a b : List Pc) : sizeQ (a ++ b) = sizeQ a + sizeQ b := by simp [sizeQ]
theorem mayQ_iff : ∀ (q : List Pc) (n : Int), n ≤ 64 → (mayQ n q = true ↔ (∀ x ∈ q, pcB x = true) ∧ n + sizeQ q ≤ 64)
  | [], n, h => by simp [mayQ, sizeQ]; omega
  | x :: q, n, h => by
    rw [mayQ, Bool.and_eq_true, Bool.and_eq_true, decide_eq_true_eq, sizeQ_cons]
    constructor
    · rintro ⟨⟨h1, h2⟩, h3⟩
      obtain ⟨h4, h5⟩ := (mayQ_iff q _ h2).1 h3
      refine ⟨fun y hy => ?_, by omega⟩
      rcases List.mem_cons.1 hy with rfl | hy
      · exact h1
      · exact h4 y hy
    · rintro ⟨h1, h2⟩
      have h3 : n + x.2.2.1.length ≤ 64 := by omega
      exact ⟨⟨h1 x (List.mem_cons_self ..), h3⟩, (mayQ_iff q _ h3).2 ⟨fun y hy => h1 y (List.mem_cons_of_mem _ hy), by omega⟩⟩
theorem may0_iff (q : List Pc) : mayQ 0 q = true ↔ (∀ x ∈ q, pcB x = true) ∧ sizeQ q ≤ 64 := by
  rw [mayQ_iff q 0 (by omega)]; constructor <;> rintro ⟨h1, h2⟩ <;> exact ⟨h1, by omega⟩
theorem sizeQ_cp (q : List Pc) : sizeQ (cpQ q) = sizeQ q := by simp [sizeQ, cpQ, cp, Function.comp_def]
theorem may_cp (q : List Pc) : mayQ 0 (cpQ q) = mayQ 0 q := by
  rw [Bool.eq_iff_iff, may0_iff, may0_iff, sizeQ_cp]
  constructor
  · rintro ⟨h1, h2⟩
    exact ⟨fun x hx => h1 (cp x) (List.mem_map_of_mem hx), h2⟩
  · rintro ⟨h1, h2⟩
    refine ⟨fun x hx => ?_, h2⟩
    obtain ⟨y, hy, rfl⟩ := List.mem_map.1 hx
    exact h1 y hy
theorem sizeQ_filter (p : Pc → Bool) : ∀ q, sizeQ (q.filter p) ≤ sizeQ q
  | [] => Nat.le_refl _
  | x :: q => by
    have := sizeQ_filter p q
    rw [sizeQ_cons, List.filter_cons]
    split
    · rw [sizeQ_cons]; omega
    · omega
theorem sizeQ_split (q : List Pc) (k : Nat) : sizeQ (q.take k) + sizeQ (q.drop k) = sizeQ q := by rw [← sizeQ_app, List.take_append_drop]
theorem may_drop {q : List Pc} (h : mayQ 0 q = true) (k : Nat) : mayQ 0 (q.drop k) = true := by
  obtain ⟨h1, h2⟩ := (may0_iff q).1 h
  have := sizeQ_split q k
  exact (may0_iff _).2 ⟨fun x hx => h1 x (List.mem_of_mem_drop hx), by omega⟩
theorem may_filter {q : List Pc} (h : mayQ 0 q = true) (p : Pc → Bool) : mayQ 0 (q.filter p) = true := by
  obtain ⟨h1, h2⟩ := (may0_iff q).1 h
  have := sizeQ_filter p q
  exact (may0_iff _).2 ⟨fun x hx => h1 x (List.mem_filter.1 hx).1, by omega⟩
theorem okL_may {q : List Pc} (h : mayQ 0 q = true) : okL q := by
  obtain ⟨h1, h2⟩ := (may0_iff q).1 h
  have hp : ∀ x ∈ q, 1 ≤ x.2.2.1.length ∧ x.2.2.1.length ≤ 16 := fun x hx => by
    have := h1 x hx
    simp only [pcB, pieceB, Bool.and_eq_true, decide_eq_true_eq] at this
    omega
  have hl : ∀ q : List Pc, (∀ x ∈ q, 1 ≤ x.2.2.1.length) → q.length ≤ sizeQ q := by
    intro q
    induction q with
    | nil => intro _; exact Nat.le_refl _
    | cons x q ih =>
      intro h
      have a := ih (fun y hy => h y (List.mem_cons_of_mem _ hy))
      have b := h x (List.mem_cons_self ..)
      rw [sizeQ_cons, List.length_cons]; omega
  exact ⟨by have := hl q (fun x hx => (hp x hx).1); omega, fun x hx => by have := hp x hx; omega⟩
theorem cp_cp (q : List Pc) : cpQ (cpQ q) = cpQ q := by simp [cpQ, cp, Function.comp_def]
/-! ### great -/
end Go.Proofs.Ythcnhibjddomdaa
