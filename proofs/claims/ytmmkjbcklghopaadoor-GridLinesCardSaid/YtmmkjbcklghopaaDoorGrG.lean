/- GridLines: plain laws. Conditions: none. -/
import Derived.Test.YtmmkjbcklghopaaDoorGrD
import Derived.Test.YtmmkjbcklghopaaDoorGrA
import Derived.Test.YtmmkjbcklghopaaDoorLinF1
set_option linter.unusedVariables false
set_option linter.unusedSimpArgs false
set_option linter.unusedSectionVars false
set_option maxRecDepth 20000
set_option maxHeartbeats 4000000
namespace Go.Proofs.YtmmkjbcklghopaaDoor
open Go
theorem erGT_may {g : List Rw} {x0 x1 y0 y1 b f k : Int} (h1 : mayG (gL g) = true) (h2 : penB b f k = true) : MayR (erGT g x0 x1 y0 y1 b f k) (rat g 0).1.length := by
  have hM := (mayG_iff g).1 h1
  have h : (mayG (gL g) && penB b f k) = true := by rw [h1, h2]; rfl
  have hl := erGT_len (x0 := x0) (x1 := x1) (y0 := y0) (y1 := y1) h
  refine ⟨by rw [hl]; exact hM.n1, by rw [hl]; exact hM.n2, hM.w1, hM.w2, fun i hi => erGT_rowlen h (by omega), fun i hi => ?_⟩
  have hi : i < g.length := by omega
  rw [erGT_rat h hi]
  split
  · unfold eraC
    split
    · exact (erase_may (hM.may i hi) _ _ _ _ _).1
    · exact hM.may i hi
  · exact hM.may i hi
theorem erGT_mayG {g : List Rw} {x0 x1 y0 y1 b f k : Int} (h1 : mayG (gL g) = true) (h2 : penB b f k = true) : mayG (gL (erGT g x0 x1 y0 y1 b f k)) = true ∧ (rat (erGT g x0 x1 y0 y1 b f k) 0).1.length = (rat g 0).1.length := by
  have h := erGT_may (x0 := x0) (x1 := x1) (y0 := y0) (y1 := y1) h1 h2
  have hw := h.len 0 (by have := h.n1; omega)
  exact ⟨(mayG_iff _).2 (by rw [hw]; exact h), hw⟩
/-- The rows from one on, up to another one, are erased. -/
def lineP (g : List Rw) (f0 f1 t0 t1 : Int) (W : Nat) (b f k : Int) (r : Int) (i : Nat) : List Cl := if f0 ≤ i ∧ (i : Int) < r then (eraC g f0 f1 t0 t1 W b f k i).1 else (rat g i).1
theorem line_step {g y : List Rw} {f0 f1 t0 t1 b f k : Int} {r : Nat} (h1 : mayG (gL g) = true) (h2 : penB b f k = true) (hy : mayG (gL y) = true) (hl : y.length = g.length) (hw : (rat y 0).1.length = (rat g 0).1.length)
    (hr : ∀ i, i < g.length → (rat y i).1 = lineP g f0 f1 t0 t1 (rat g 0).1.length b f k r i) (q0 : f0 ≤ r) (q1 : (r : Int) ≤ t0) (q2 : t0 < g.length) (f1b : 0 ≤ f1 ∧ f1 < (rat g 0).1.length) (t1b : 0 ≤ t1 ∧ t1 < (rat g 0).1.length) {x1 y1 : Int}
    (hx : x1 = if (r : Int) = f0 then f1 else 0) (hy1 : y1 = if (r : Int) = t0 then t1 else ((rat g 0).1.length : Int) - 1) :
    ∀ i, i < g.length → (rat (erGT y r x1 r y1 b f k) i).1 = lineP g f0 f1 t0 t1 (rat g 0).1.length b f k ((r + 1 : Nat) : Int) i := by
  intro i hi
  have hM := (mayG_iff g).1 h1
  have h : (mayG (gL y) && penB b f k) = true := by rw [hy, h2]; rfl
  have hx1 : 0 ≤ x1 ∧ x1 < (rat g 0).1.length := by rw [hx]; split <;> omega
  have hy1' : 0 ≤ y1 ∧ y1 < (rat g 0).1.length := by rw [hy1]; split <;> omega
  have hpl : (plB y.length (rat y 0).1.length r x1 && plB y.length (rat y 0).1.length r y1) = true := by
    rw [hl, hw]
    simp [plB]; omega
  rw [erGT_rat h (by omega), if_pos hpl, hw]
  have hri := hr i hi
  by_cases c : i = r
  · subst c
    have e1 : eraC y (i : Int) x1 (i : Int) y1 (rat g 0).1.length b f k i = (eraseT (rat y i).1 x1 (y1 + 1) b f k, false) := by
      unfold eraC
      rw [if_pos ⟨by omega, by omega⟩, if_pos rfl, if_pos rfl]
    have e2 : lineP g f0 f1 t0 t1 (rat g 0).1.length b f k ((i + 1 : Nat) : Int) i = (eraC g f0 f1 t0 t1 (rat g 0).1.length b f k i).1 := by
      unfold lineP; rw [if_pos ⟨q0, by omega⟩]
    have e3 : (rat y i).1 = (rat g i).1 := by rw [hri]; unfold lineP; rw [if_neg (by omega)]
    rw [e1, e2, e3]
    unfold eraC
    rw [if_pos ⟨q0, q1⟩]
    show eraseT _ _ _ _ _ _ = eraseT _ _ _ _ _ _
    rw [hx, hy1]
    congr 1
    split
    · rfl
    · omega
  · have e1 : eraC y (r : Int) x1 (r : Int) y1 (rat g 0).1.length b f k i = fr (rat y i) := by
      unfold eraC
      rw [if_neg (by omega)]
    rw [e1]
    show (rat y i).1 = _
    rw [hri]
    unfold lineP
    by_cases d : f0 ≤ i ∧ (i : Int) < r
    · rw [if_pos d, if_pos ⟨d.1, by omega⟩]
    · rw [if_neg d, if_neg (by omega)]
theorem line_end {g : List Rw} {f0 f1 t0 t1 b f k : Int} (h : (mayG (gL g) && penB b f k) = true) (hpl : (plB g.length (rat g 0).1.length f0 f1 && plB g.length (rat g 0).1.length t0 t1) = true) {i : Nat} (hi : i < g.length) :
    (rat (erGT g f0 f1 t0 t1 b f k) i).1 = lineP g f0 f1 t0 t1 (rat g 0).1.length b f k (t0 + 1) i := by
  rw [erGT_rat h hi, if_pos hpl]
  unfold lineP
  by_cases d : f0 ≤ i ∧ (i : Int) < t0 + 1
  · rw [if_pos d]
  · rw [if_neg d]
    unfold eraC
    rw [if_neg (by omega)]
    rfl
end Go.Proofs.YtmmkjbcklghopaaDoor
