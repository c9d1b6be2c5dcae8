/- How a laid table of rows of integers lies in memory, over any program. Conditions: as each statement says. -/
import Derived.Test.YtcjlkggdcnochaaDoorRead
set_option linter.unusedVariables false
set_option linter.unusedSimpArgs false
set_option linter.unusedSectionVars false
namespace Go.Proofs.YtcjlkggdcnochaaDoor
open Go Go.RowKit
section
variable {H : Type} {enc : TypeId × Value → H} {P : Program} {w : World} {base : Nat} {spare : Nat → Bool} {held : Bool}
def rowD (k : IntKind) (r : List Int) : DataW H := .agg (r.map fun x => .lit (.int k x))

theorem row_cells {fuel e1 m e2 : Nat} {k : IntKind} {cs : List Value} {ps : List MemPlace} {r : List Int} (h1 : P.underlying e1 = some (.array m e2)) (h2 : P.underlying e2 = some (.int k)) (c2 : P.cellsOf e2 = 1)
    (h : DataW.trod enc P w base spare held fuel e1 cs = some (rowD k r, ps)) (hr : r.length = m) : ∀ j, j < m → cs[j]? = some (.int k (r.getD j 0)) := by
  obtain ⟨ys, q, rfl, hx, hl, hyl, hel⟩ := DataW.trod_array h1 h
  intro j hj
  have h3 := hel j hj
  rw [List.getElem?_eq_getElem (by omega), c2, Nat.mul_one] at h3
  obtain ⟨n, hn, hy, _⟩ := DataW.trod_int h2 h3
  have e0 : ((cs.drop j).take 1)[0]? = some (.int k n) := by rw [hn]; rfl
  rw [List.getElem?_take, if_pos (by omega), List.getElem?_drop, Nat.add_zero] at e0
  rw [e0]
  simp only [rowD, Prod.mk.injEq, DataW.agg.injEq] at hx
  have e1 := congrArg (fun l => l[j]?) hx.1
  simp only [List.getElem?_map] at e1
  rw [List.getElem?_eq_getElem (by omega : j < ys.length), List.getElem?_eq_getElem (by omega : j < r.length)] at e1
  simp only [Option.map_some, Option.some.injEq] at e1
  rw [hy] at e1
  simp only [DataW.lit.injEq, Lit.int.injEq, true_and] at e1
  rw [List.getD_eq_getElem?_getD, List.getElem?_eq_getElem (by omega : j < r.length), Option.getD_some, e1]

theorem table_cells {fuel t n e1 m e2 : Nat} {k : IntKind} {cs : List Value} {ps : List MemPlace} {rows : List (List Int)} (ht : P.underlying t = some (.array n e1)) (h1 : P.underlying e1 = some (.array m e2)) (h2 : P.underlying e2 = some (.int k))
    (c1 : P.cellsOf e1 = m) (c2 : P.cellsOf e2 = 1) (h : DataW.trod enc P w base spare held fuel t cs = some (.agg (rows.map (rowD k)), ps)) (hn : rows.length = n) (hr : ∀ r ∈ rows, r.length = m) :
    ∀ i j, i < n → j < m → cs[i * m + j]? = some (.int k ((rows.getD i []).getD j 0)) := by
  obtain ⟨xs, q, rfl, hx, hl, hxl, hel⟩ := DataW.trod_array ht h
  intro i j hi hj
  have h3 := hel i hi
  rw [List.getElem?_eq_getElem (by omega), c1] at h3
  simp only [Prod.mk.injEq, DataW.agg.injEq] at hx
  have ee := congrArg (fun l => l[i]?) hx.1
  simp only [List.getElem?_map] at ee
  rw [List.getElem?_eq_getElem (by omega : i < xs.length), List.getElem?_eq_getElem (by omega : i < rows.length)] at ee
  simp only [Option.map_some, Option.some.injEq] at ee
  have h4 : DataW.trod enc P w base spare held q e1 ((cs.drop (i * m)).take m) = some (rowD k rows[i], xs[i].2) := by rw [h3, ee]
  have := row_cells h1 h2 c2 h4 (hr _ (List.getElem_mem _)) j hj
  rw [List.getElem?_take, if_pos hj, List.getElem?_drop] at this
  have eg : rows.getD i [] = rows[i] := by simp [show i < rows.length by omega]
  rw [this, eg]
end
end Go.Proofs.YtcjlkggdcnochaaDoor
