/- Grids: copies, blanks, whether they are alike, how great they are. Conditions: the table lies as laid. -/
import Derived.Test.YtmmkjbcklghopaaDoorGr1
set_option linter.unusedVariables false
set_option linter.unusedSimpArgs false
set_option linter.unusedSectionVars false
set_option maxRecDepth 20000
set_option maxHeartbeats 2000000
namespace Go.Proofs.YtmmkjbcklghopaaDoor
open Go
variable (G : Nat → Option (List AV)) (hG : G 0 = some tabC)
def fr (r : Rw) : Rw := (r.1, false)
/-- A grid of which so many rows are laid. -/
def half (g : List Rw) (n i : Nat) : List Rw := g.take i ++ List.replicate (n - i) ([], true)
theorem half_len {g : List Rw} {n i : Nat} (hg : g.length = n) (h : i ≤ n) : (half g n i).length = n := by simp [half, hg]; omega
theorem half_set {g : List Rw} {n i : Nat} (hg : g.length = n) (h : i < n) : (half g n i).set i (rat g i) = half g n (i + 1) := by
  have hi : (g.take i).length = i := by simp [hg]; omega
  have e : n - i = (n - (i + 1)) + 1 := by omega
  have r : rat g i = g[i] := by simp [rat, hg, h]
  unfold half
  rw [List.set_append_right _ _ (by omega), hi, Nat.sub_self, e, List.replicate_succ, List.set_cons_zero, r, List.take_succ_eq_append_getElem (by omega), List.append_assoc]
  rfl
theorem half_end {g : List Rw} {n : Nat} (hg : g.length = n) : half g n n = g := by simp [half, ← hg]
theorem half_zero (g : List Rw) (n : Nat) : List.replicate n [AV.data false 7 [] true] = gA (half g n 0) := by simp [half, gA, rowA, cells_nil]
end Go.Proofs.YtmmkjbcklghopaaDoor
