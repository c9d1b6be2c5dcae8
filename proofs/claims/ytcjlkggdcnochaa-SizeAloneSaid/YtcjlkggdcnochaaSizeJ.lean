/- Plain facts on windows that are set and cleared. Conditions: none. -/
import Derived.Test.YtcjlkggdcnochaaSizeH
namespace Go.Proofs.Ytcjlkggdcnochaa
open Go.RowKit

theorem mayTo_of (x : Nat → Int) {n : Nat} (h : ∀ i, i < n → rowOk x i = true) : mayTo x n = true := by
  induction n with
  | zero => rfl
  | succ n ih => simp only [mayTo, ih (fun i hi => h i (by omega)), h n (by omega), Bool.and_self]
theorem winSet_at (x : Nat → Int) (id a b : Int) : winSet x id a b (id.toNat * 2) = a := by simp [winSet]
theorem winSet_at1 (x : Nat → Int) (id a b : Int) : winSet x id a b (id.toNat * 2 + 1) = b := by simp [winSet]
theorem winSet_ne (x : Nat → Int) (id a b : Int) (j : Nat) (h : j ≠ id.toNat) : winSet x id a b (j * 2) = x (j * 2) := by unfold winSet; rw [if_neg (by omega), if_neg (by omega)]
theorem winSet_ne1 (x : Nat → Int) (id a b : Int) (j : Nat) (h : j ≠ id.toNat) : winSet x id a b (j * 2 + 1) = x (j * 2 + 1) := by unfold winSet; rw [if_neg (by omega), if_neg (by omega)]
theorem may_set (x : Nat → Int) (id a b : Int) (hm : mayB x = true) (hid : memberB id = true) (h : (sideB a = true ∧ sideB b = true) ∨ (a = 0 ∧ b = 0)) : mayB (winSet x id a b) = true := by
  refine mayTo_of _ (fun i hi => ?_)
  have hid' : 1 ≤ id ∧ id ≤ 8 := by simpa [memberB] using hid
  rw [rowOk_iff]
  by_cases e : i = id.toNat
  · subst e
    rw [winSet_at, winSet_at1]
    rcases h with ⟨h1, h2⟩ | h
    · have h1' : 1 ≤ a ∧ a ≤ 1000 := by simpa [sideB] using h1
      have h2' : 1 ≤ b ∧ b ≤ 1000 := by simpa [sideB] using h2
      omega
    · omega
  · rw [winSet_ne _ _ _ _ _ e, winSet_ne1 _ _ _ _ _ e]
    exact (rowOk_iff x i).1 (mayTo_row x hm i hi)
theorem good_set (x : Nat → Int) (id a b : Int) (hid : memberB id = true) (ha : sideB a = true) : goodB (winSet x id a b) id = true := by
  have h1' : 1 ≤ a ∧ a ≤ 1000 := by simpa [sideB] using ha
  simp only [goodB, hid, winSet_at, winSet_at1, eq2B, Bool.true_and, Bool.not_eq_true', Bool.and_eq_false_iff, decide_eq_false_iff_not]
  omega
theorem good_clear (x : Nat → Int) (id : Int) : goodB (winSet x id 0 0) id = false := by simp [goodB, winSet_at, winSet_at1, eq2B]
theorem good_other (x : Nat → Int) (id o a b : Int) (ho : memberB o = true) (hid : memberB id = true) (hne : o ≠ id) : goodB (winSet x o a b) id = goodB x id := by
  have h1' : 1 ≤ o ∧ o ≤ 8 := by simpa [memberB] using ho
  have h2' : 1 ≤ id ∧ id ≤ 8 := by simpa [memberB] using hid
  unfold goodB
  rw [winSet_ne _ _ _ _ _ (by omega), winSet_ne1 _ _ _ _ _ (by omega)]
/-- SizeAlone's first answer -/
theorem alone1 (x : Nat → Int) (id a b p q : Int) (hm : mayB x = true) (hid : memberB id = true) (ha : sideB a = true) (hb : sideB b = true) :
    leastF (winSet x id a b) [id] p q = (imin a 24, imin b 40) := by
  have hm' := may_set x id a b hm hid (.inl ⟨ha, hb⟩)
  have hg := good_set x id a b hid ha
  have e : lsTo (winSet x id a b) [id] 1 = ⟨true, imin 24 a, imin 40 b⟩ := by
    rw [lsTo_succ]
    simp only [List.getD_cons_zero, lsStep, hg, if_true, winSet_at, winSet_at1]
    rfl
  unfold leastF
  rw [show [id].length = 1 from rfl, e, if_pos ⟨hm', rfl⟩]
  simp only [imin, Prod.mk.injEq]
  constructor <;> split <;> split <;> omega
theorem alone2 (x : Nat → Int) (id p q : Int) : leastF (winSet x id 0 0) [id] p q = (p, q) := by
  have hg := good_clear x id
  have e : lsTo (winSet x id 0 0) [id] 1 = ⟨false, 24, 40⟩ := by
    rw [lsTo_succ]
    simp only [List.getD_cons_zero, lsStep, hg]
    rfl
  unfold leastF
  rw [show [id].length = 1 from rfl, e, if_neg (by simp)]
theorem alone3 (x : Nat → Int) (id o a b p q : Int) (hm : mayB x = true) (hid : memberB id = true) (ho : memberB o = true) (hne : o ≠ id) (ha : sideB a = true) (hb : sideB b = true) :
    leastF (winSet (winSet x id a b) o 0 0) [o, id, o] p q = (imin a 24, imin b 40) := by
  have hm1 := may_set x id a b hm hid (.inl ⟨ha, hb⟩)
  have hm' := may_set (winSet x id a b) o 0 0 hm1 ho (.inr ⟨rfl, rfl⟩)
  have hg : goodB (winSet (winSet x id a b) o 0 0) id = true := by rw [good_other _ _ _ _ _ ho hid hne]; exact good_set x id a b hid ha
  have hg0 := good_clear (winSet x id a b) o
  have h1' : 1 ≤ o ∧ o ≤ 8 := by simpa [memberB] using ho
  have h2' : 1 ≤ id ∧ id ≤ 8 := by simpa [memberB] using hid
  have e : lsTo (winSet (winSet x id a b) o 0 0) [o, id, o] 3 = ⟨true, imin 24 a, imin 40 b⟩ := by
    rw [lsTo_succ, lsTo_succ, lsTo_succ]
    simp only [List.getD_cons_zero, List.getD_cons_succ, lsStep, hg0, hg, if_true, Bool.false_eq_true, if_false]
    rw [winSet_ne _ o _ _ id.toNat (by omega), winSet_ne1 _ o _ _ id.toNat (by omega), winSet_at, winSet_at1]
    rfl
  unfold leastF
  rw [show [o, id, o].length = 3 from rfl, e, if_pos ⟨hm', rfl⟩]
  simp only [imin, Prod.mk.injEq]
  constructor <;> split <;> split <;> omega
end Go.Proofs.Ytcjlkggdcnochaa
