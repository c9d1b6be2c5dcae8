/- ColsBounds: the closed law. Conditions: the table lies as laid. -/
import Derived.Test.YtcjlkggdcnochaaDoorLin1
import Derived.Test.YtcjlkggdcnochaaDoorM3
set_option linter.unusedVariables false
set_option linter.unusedSimpArgs false
set_option linter.unusedSectionVars false
set_option maxRecDepth 200000
set_option maxHeartbeats 4000000
namespace Go.Proofs.YtcjlkggdcnochaaDoor
open Go
/-- The table, laid. -/
def G13 : Nat → Option (List AV) := fun g => if g = 0 then some tabC else none
theorem G13_rep {w : World} (h : ∀ j, j < 66 → w.cell? ⟨0, j, none⟩ = some (.int .i32 (tabL.getD j 0))) : ∀ g cs, G13 g = some cs → RepV (fun _ => none) w (fun _ => False) (fun _ => False) (.dptr cs) (.pointer (some ⟨g, 0, none⟩)) := by
  intro g cs hg
  unfold G13 at hg
  split at hg
  case isFalse => cases hg
  rename_i e
  subst e
  cases hg
  have hl : tabC.length = 66 := rfl
  refine .dptr tabC 0 0 (fun j => .int .i32 (tabL.getD j 0)) (fun h => h) (block_lt_of_cell (h 0 (by omega))) (fun j hj => ⟨?_, rfl⟩) (fun j c hj => ?_)
  · rw [Nat.zero_add]; exact h j (by omega)
  · have hj6 : j < 66 := by
      have := (List.getElem?_eq_some_iff.1 hj).1
      omega
    rw [tab_at j hj6] at hj
    cases hj
    exact .int _ _
set_option maxRecDepth 100000 in
theorem law_ColsBounds : aP G13 FT n_law13_ColsBounds [] = some (.bool true) := aP_fuel 150 (by kernel_rfl)
end Go.Proofs.YtcjlkggdcnochaaDoor
