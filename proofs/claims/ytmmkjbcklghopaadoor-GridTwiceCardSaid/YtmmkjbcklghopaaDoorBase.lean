/- Small facts on worlds. Conditions: none. -/
import Derived.WalkKit
import Derived.Lib.Hide
import Derived.Deep.MidRow
set_option linter.unusedVariables false
set_option linter.unusedSimpArgs false
set_option linter.unusedSectionVars false
namespace Go.Proofs.YtmmkjbcklghopaaDoor
open Go Go.RowKit

theorem below_setRow {B : Nat} {a w : World} (h : Below B a w) {g : Nat} (hg : B ≤ g) (cs : Array Value) : Below B a (w.setRow g cs) :=
  h.trans ⟨rfl, rfl, rfl, by simp, fun k hk => setRow_other w g k cs (by omega)⟩

theorem results_cell_tmp {P : Program} {fn : Func} {p t : Tmp} {ty : TypeId} (h : fn.results = #[.cell p ty, .tmp t]) (tmps : Array Value) (w : World) (g : Nat) (te : TypeId) (cs : Array Value) (fr : Nat × Nat) (d : TypeDesc)
    (hp : tmps.getD p undef = .pointer (some ⟨g, 0, none⟩)) (hg : w.heap[g]? = some (.cells cs te fr))
    (hu : P.underlying ty = some d) (hd : (match d with | .struct _ | .array _ _ => true | _ => false) = true) (hi : (P.info? ty).map (·.size) = some cs.size) :
    (results fn tmps).run P w = .ok (.tuple #[.agg cs, tmps.getD t undef]) w := by
  have hp' : tmps[p]?.getD undef = .pointer (some ⟨g, 0, none⟩) := by simpa using hp
  simp [results, h, hp', asAddr, run_loadVar_row w g te ty cs fr d hg hu hd hi]

theorem ret_bool {a b : Bool} (h : a = b) : Ending.returned (.bool a) = .returned (.bool b) := by rw [h]
theorem ret_int {k : IntKind} {a b : Int} (h : a = b) : Ending.returned (.int k a) = .returned (.int k b) := by rw [h]
theorem frozen_row (w : World) (g j : Nat) (cs : Array Value) (t : TypeId) (hg : w.heap[g]? = some (.cells cs t (0, 0))) : w.frozen? ⟨g, j, none⟩ = false := frozen_of_row w g j cs t hg

/-- A slice's address: where its cells lie, if there are any. -/
def RowAt (w : World) (a : Option Addr) (cs : List Value) : Prop := cs ≠ [] → ∃ b off, a = some ⟨b, off, none⟩ ∧ ∀ j v, cs[j]? = some v → w.cell? ⟨b, off + j, none⟩ = some v
theorem RowAt.below {w w' : World} {a : Option Addr} {cs : List Value} (h : RowAt w a cs) (hb : Below w.heap.size w w') : RowAt w' a cs := by
  intro hne
  obtain ⟨b, off, ha, hc⟩ := h hne
  refine ⟨b, off, ha, fun j v hj => ?_⟩
  have h1 := hc j v hj
  exact (hb.cell (p := ⟨b, off + j, none⟩) (block_lt_of_cell h1)).trans h1
theorem RowAt.cell {w : World} {a : Option Addr} {cs : List Value} (h : RowAt w a cs) {j : Nat} {v : Value} (hj : cs[j]? = some v) : ∃ b off, a = some ⟨b, off, none⟩ ∧ b < w.heap.size ∧ w.cell? ⟨b, off + j, none⟩ = some v := by
  obtain ⟨b, off, ha, hc⟩ := h (by intro e; subst e; simp at hj)
  exact ⟨b, off, ha, block_lt_of_cell (hc j v hj), hc j v hj⟩
theorem heap_alloc3_new (w : World) (A B C : Obj) : (((w.alloc A).alloc B).alloc C).heap[w.heap.size + 1 + 1]? = some C := by
  have h := heap_alloc_new ((w.alloc A).alloc B) C
  have e : ((w.alloc A).alloc B).heap.size = w.heap.size + 1 + 1 := by simp
  rwa [e] at h
theorem below_alloc2 (w : World) (A B : Obj) : Below w.heap.size w ((w.alloc A).alloc B) := ((Below.refl _ _).alloc (Nat.le_refl _) _).alloc (by simp) _
theorem below_alloc3 (w : World) (A B C : Obj) : Below w.heap.size w (((w.alloc A).alloc B).alloc C) := (below_alloc2 w A B).alloc (by simp; omega) _
theorem below_alloc4 (w : World) (A B C D : Obj) : Below w.heap.size w ((((w.alloc A).alloc B).alloc C).alloc D) := (below_alloc3 w A B C).alloc (by simp; omega) _
theorem rangeAt_alloc {w : World} {b o : Nat} {cs : List Value} (h : w.rangeAt b o cs) (ob : Obj) : (w.alloc ob).rangeAt b o cs := fun j v hj => by
  have h1 := h j v hj
  exact (World.cell?_of_block (w := w) (Below.heap_alloc w ob _ (block_lt_of_cell h1))).trans h1
theorem rangeAt_below {w w' : World} {b o : Nat} {cs : List Value} (h : w.rangeAt b o cs) (hb : Below w.heap.size w w') : w'.rangeAt b o cs := fun j v hj => by
  have h1 := h j v hj
  exact (hb.cell (p := ⟨b, o + j, none⟩) (block_lt_of_cell h1)).trans h1
theorem rangeAt_setCell {w : World} {b o : Nat} {cs : List Value} (h : w.rangeAt b o cs) (a : Addr) (v : Value) (hne : a.block ≠ b) : (w.setCell a v).rangeAt b o cs := fun j u hj =>
  (World.cell?_of_block (w := w) (Below.heap_setCell w a v b (fun e => hne e.symm))).trans (h j u hj)
theorem rangeAt_drew {w : World} {b o : Nat} {cs : List Value} (h : w.rangeAt b o cs) : w.drew.rangeAt b o cs := h
theorem rangeAt_row {w : World} {b : Nat} {cs : List Value} {t : TypeId} {fr : Nat × Nat} (h : w.heap[b]? = some (.cells cs.toArray t fr)) : w.rangeAt b 0 cs := fun j v hj => by
  rw [Nat.zero_add, cell_of_row w b j _ t fr h]; simpa using hj
theorem RowAt.alloc {w : World} {a : Option Addr} {cs : List Value} (h : RowAt w a cs) (ob : Obj) : RowAt (w.alloc ob) a cs := h.below ((Below.refl _ _).alloc (Nat.le_refl _) ob)
theorem rowAt_at (w : World) (cs : List Value) (t : TypeId) (n : Nat) (hn : n = w.heap.size) : RowAt (w.alloc (.cells cs.toArray t)) (some ⟨n, 0, none⟩) cs := fun _ => ⟨n, 0, rfl, fun j v hj => by
  subst hn; exact rangeAt_row (heap_alloc_new w _) j v hj⟩
/-- the cells of integers -/
def intCells (l : List Int) : List Value := l.map (Value.int .i64)
theorem intCells_length (l : List Int) : (intCells l).length = l.length := by simp [intCells]
theorem intCells_get (l : List Int) (j : Nat) (h : j < l.length) : (intCells l)[j]? = some (.int .i64 (l.getD j 0)) := by simp [intCells, h]
theorem RowAt.int {w : World} {a : Option Addr} {l : List Int} (h : RowAt w a (intCells l)) {j : Nat} (hj : j < l.length) : ∃ b off, a = some ⟨b, off, none⟩ ∧ b < w.heap.size ∧ w.cell? ⟨b, off + j, none⟩ = some (.int .i64 (l.getD j 0)) := h.cell (intCells_get l j hj)

/-- The law on the load of a whole row, at an operation whose guard says yes. -/
theorem wpList_load_row_g {P : Program} {ops : Array Oper} {rest : List Oper} {o : Oper} {a : Act} {w : World} {Q : Exit → Act → World → Prop} (hw : Region.wanted o (yielded ops a.tmps) = true) (ty : TypeId) (x : Operand) (ho : o.op = .load ty x)
    (g : Nat) (hx : a.eval x = .pointer (some ⟨g, 0, none⟩)) (t : TypeId) (cs : Array Value) (fr : Nat × Nat) (d : TypeDesc) (hg : w.heap[g]? = some (.cells cs t fr))
    (hu : P.underlying ty = some d) (hd : (match d with | .struct _ | .array _ _ => true | _ => false) = true) (hi : (P.info? ty).map (·.size) = some cs.size)
    (h : wpList P ops Q rest (a.put o.dst (.agg cs)) w) : wpList P ops Q (o :: rest) a w := by
  unfold wpList
  rw [if_pos hw]
  exact .inl (wp_load_row ty x ho g hx t cs fr d hg hu hd hi h)
end Go.Proofs.YtmmkjbcklghopaaDoor
