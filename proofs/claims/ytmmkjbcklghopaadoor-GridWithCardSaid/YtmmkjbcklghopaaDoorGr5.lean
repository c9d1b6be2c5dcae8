/- Grids: the chapter's examples; whether any cells are a grid. Conditions: none. -/
import Derived.Test.YtmmkjbcklghopaaDoorGr4
import Derived.Test.YtmmkjbcklghopaaDoorLinD
set_option linter.unusedVariables false
set_option linter.unusedSimpArgs false
set_option linter.unusedSectionVars false
set_option maxRecDepth 20000
set_option maxHeartbeats 2000000
namespace Go.Proofs.YtmmkjbcklghopaaDoor
open Go
set_option maxRecDepth 100000 in
theorem known15_P : aP G13 FT n_law15_known [] = some (.bool true) := aP_fuel 100 (by kernel_rfl)
/-- Arguments' shapes. -/
theorem ty_grid {a : AV} (h : HasTy (.sl [.sl [.int .i32, .int .i32, .int .i32, .int .i64, .int .i64, .int .i64, .int .i64]]) a) : ∃ g f, a = .data false 1 (gA g) f ∧ ∀ r ∈ g, ∀ x ∈ r.1, OkC x := by
  simp only [HasTy] at h
  obtain ⟨es, f, rfl, hl, he⟩ := h
  obtain ⟨l, rfl, hq⟩ := list_of (Q := fun r : Rw => ∀ x ∈ r.1, OkC x) (f := rowA) es (fun g hg => by
    obtain ⟨a, g1, rfl, h1, r1⟩ := tys_cons (he g hg)
    have := tys_nil r1
    subst this
    obtain ⟨l, f, rfl, hq⟩ := ty_cells (a := a) (by simp only [HasTy]; exact h1)
    exact ⟨(l, f), rfl, hq⟩)
  exact ⟨l, f, rfl, hq⟩
end Go.Proofs.YtmmkjbcklghopaaDoor
