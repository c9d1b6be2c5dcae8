/- The chapter's examples; whether any cells are a line. Conditions: none. -/
import Derived.Test.YtmmkjbcklghopaaDoorLin5
import Derived.Test.YtmmkjbcklghopaaDoorM3
set_option linter.unusedVariables false
set_option linter.unusedSimpArgs false
set_option linter.unusedSectionVars false
set_option maxRecDepth 20000
set_option maxHeartbeats 2000000
namespace Go.Proofs.YtmmkjbcklghopaaDoor
open Go
/-- The table, laid. -/
def G13 : Nat → Option (List AV) := fun g => if g = 0 then some tabC else none
theorem G13_0 : G13 0 = some tabC := rfl
theorem G13_rep {w : World} (h : ∀ j, j < 66 → w.cell? ⟨0, j, none⟩ = some (.int .i32 (tabL.getD j 0))) : ∀ g cs, G13 g = some cs → RepV (fun _ => none) w (fun _ => False) (fun _ => False) (.dptr cs) (.pointer (some ⟨g, 0, none⟩)) := by
  intro g cs hg
  unfold G13 at hg
  split at hg
  case isFalse => cases hg
  rename_i e
  subst e
  cases hg
  have hl : tabC.length = 66 := rfl
  refine .dptr tabC 0 0 (fun j => .int .i32 (tabL.getD j 0)) (fun h => h) (block_lt_of_cell (h 0 (by omega))) (fun j hj => ⟨?_, rfl⟩) (fun j c hj => ?_)
  · rw [Nat.zero_add]; exact h j (by omega)
  · have hj6 : j < 66 := by
      have := (List.getElem?_eq_some_iff.1 hj).1
      omega
    rw [tab_at j hj6] at hj
    cases hj
    exact .int _ _
end Go.Proofs.YtmmkjbcklghopaaDoor
