/- Small facts on worlds. Conditions: none. -/
import Derived.WalkKit
import Derived.Lib.Hide
import Derived.Deep.MidRow
set_option linter.unusedVariables false
set_option linter.unusedSimpArgs false
set_option linter.unusedSectionVars false
namespace Go.Proofs.YtcjlkggdcnochaaDoor
open Go Go.RowKit

/-- A slice's address: where its cells lie, if there are any. -/
def RowAt (w : World) (a : Option Addr) (cs : List Value) : Prop := cs ≠ [] → ∃ b off, a = some ⟨b, off, none⟩ ∧ ∀ j v, cs[j]? = some v → w.cell? ⟨b, off + j, none⟩ = some v
theorem RowAt.below {w w' : World} {a : Option Addr} {cs : List Value} (h : RowAt w a cs) (hb : Below w.heap.size w w') : RowAt w' a cs := by
  intro hne
  obtain ⟨b, off, ha, hc⟩ := h hne
  refine ⟨b, off, ha, fun j v hj => ?_⟩
  have h1 := hc j v hj
  exact (hb.cell (p := ⟨b, off + j, none⟩) (block_lt_of_cell h1)).trans h1
theorem RowAt.cell {w : World} {a : Option Addr} {cs : List Value} (h : RowAt w a cs) {j : Nat} {v : Value} (hj : cs[j]? = some v) : ∃ b off, a = some ⟨b, off, none⟩ ∧ b < w.heap.size ∧ w.cell? ⟨b, off + j, none⟩ = some v := by
  obtain ⟨b, off, ha, hc⟩ := h (by intro e; subst e; simp at hj)
  exact ⟨b, off, ha, block_lt_of_cell (hc j v hj), hc j v hj⟩
theorem RowAt.alloc {w : World} {a : Option Addr} {cs : List Value} (h : RowAt w a cs) (ob : Obj) : RowAt (w.alloc ob) a cs := h.below ((Below.refl _ _).alloc (Nat.le_refl _) ob)
/-- the cells of integers -/
def intCells (l : List Int) : List Value := l.map (Value.int .i64)
theorem intCells_get (l : List Int) (j : Nat) (h : j < l.length) : (intCells l)[j]? = some (.int .i64 (l.getD j 0)) := by simp [intCells, h]
theorem RowAt.int {w : World} {a : Option Addr} {l : List Int} (h : RowAt w a (intCells l)) {j : Nat} (hj : j < l.length) : ∃ b off, a = some ⟨b, off, none⟩ ∧ b < w.heap.size ∧ w.cell? ⟨b, off + j, none⟩ = some (.int .i64 (l.getD j 0)) := h.cell (intCells_get l j hj)

end Go.Proofs.YtcjlkggdcnochaaDoor
