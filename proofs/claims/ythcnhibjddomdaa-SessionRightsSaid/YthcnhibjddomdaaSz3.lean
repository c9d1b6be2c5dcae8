/- Least windows: plain laws; the chapter's known rows. Conditions: as each statement says. -/
import Derived.Test.YthcnhibjddomdaaSz2
import Derived.KernelRfl
set_option linter.unusedVariables false
set_option linter.unusedSimpArgs false
set_option linter.unusedSectionVars false
namespace Go.Proofs.Ythcnhibjddomdaa
open Go
variable (G : Nat → Option (List AV))
/-- Did a member tell a window? -/
def valW (w : Nat → Int × Int) (id : Int) : Bool := memB id && !(decide ((w id.toNat).1 = 0) && decide ((w id.toNat).2 = 0))
theorem valW_iff (w : Nat → Int × Int) (id : Int) : valW w id = true ↔ memB id = true ∧ ¬ ((w id.toNat).1 = 0 ∧ (w id.toNat).2 = 0) := by
  unfold valW
  by_cases a : (w id.toNat).1 = 0 <;> by_cases b : (w id.toNat).2 = 0 <;> simp [a, b]
theorem stepW_val (w : Nat → Int × Int) (s : Bool × Int × Int) (id : Int) : stepW w s id = if valW w id = true then (true, min s.2.1 (w id.toNat).1, min s.2.2 (w id.toNat).2) else s := by
  unfold stepW
  simp only [← valW_iff]
theorem fold_told (w : Nat → Int × Int) : ∀ (l : List Int) (s : Bool × Int × Int), (l.foldl (stepW w) s).1 = (s.1 || l.any (valW w))
  | [], s => by simp
  | x :: l, s => by
    rw [List.foldl_cons, fold_told w l, stepW_val]
    by_cases h : valW w x = true
    · simp [h]
    · have h' : valW w x = false := by simpa using h
      simp [h']
theorem fold_le1 (w : Nat → Int × Int) (v : Int) : ∀ (l : List Int) (s : Bool × Int × Int), v ≤ (l.foldl (stepW w) s).2.1 ↔ v ≤ s.2.1 ∧ ∀ x ∈ l, valW w x = true → v ≤ (w x.toNat).1
  | [], s => by simp
  | x :: l, s => by
    rw [List.foldl_cons, fold_le1 w v l, stepW_val]
    by_cases h : valW w x = true
    · simp [h, Int.le_min, and_assoc]
    · simp [h]
theorem fold_le2 (w : Nat → Int × Int) (v : Int) : ∀ (l : List Int) (s : Bool × Int × Int), v ≤ (l.foldl (stepW w) s).2.2 ↔ v ≤ s.2.2 ∧ ∀ x ∈ l, valW w x = true → v ≤ (w x.toNat).2
  | [], s => by simp
  | x :: l, s => by
    rw [List.foldl_cons, fold_le2 w v l, stepW_val]
    by_cases h : valW w x = true
    · simp [h, Int.le_min, and_assoc]
    · simp [h]
theorem lst_told (w : Nat → Int × Int) (l : List Int) : (lstW w l).1 = l.any (valW w) := by rw [lstW, fold_told]; rfl
theorem lst_le1 (w : Nat → Int × Int) (l : List Int) (v : Int) : v ≤ (lstW w l).2.1 ↔ v ≤ 24 ∧ ∀ x ∈ l, valW w x = true → v ≤ (w x.toNat).1 := fold_le1 w v l _
theorem lst_le2 (w : Nat → Int × Int) (l : List Int) (v : Int) : v ≤ (lstW w l).2.2 ↔ v ≤ 40 ∧ ∀ x ∈ l, valW w x = true → v ≤ (w x.toNat).2 := fold_le2 w v l _
/-- Neither order nor repetition is anything to it. -/
theorem lst_same (w : Nat → Int × Int) {l l' : List Int} (h : ∀ x, x ∈ l ↔ x ∈ l') : lstW w l = lstW w l' := by
  have h0 : (lstW w l).1 = (lstW w l').1 := by
    rw [lst_told, lst_told, Bool.eq_iff_iff, List.any_eq_true, List.any_eq_true]
    exact ⟨fun ⟨x, a, b⟩ => ⟨x, (h x).1 a, b⟩, fun ⟨x, a, b⟩ => ⟨x, (h x).2 a, b⟩⟩
  have h1 : (lstW w l).2.1 = (lstW w l').2.1 := by
    have key : ∀ v, v ≤ (lstW w l).2.1 ↔ v ≤ (lstW w l').2.1 := fun v => by simp only [lst_le1, h]
    have a := (key _).1 (Int.le_refl _)
    have b := (key _).2 (Int.le_refl _)
    omega
  have h2 : (lstW w l).2.2 = (lstW w l').2.2 := by
    have key : ∀ v, v ≤ (lstW w l).2.2 ↔ v ≤ (lstW w l').2.2 := fun v => by simp only [lst_le2, h]
    have a := (key _).1 (Int.le_refl _)
    have b := (key _).2 (Int.le_refl _)
    omega
  exact Prod.ext h0 (Prod.ext h1 h2)
theorem mayFrom_ok (w : Nat → Int × Int) : ∀ (m i : Nat), mayFrom w m i = true → ∀ k, i ≤ k → k < i + m → okW w k = true
  | 0, i, _, k, h1, h2 => by omega
  | m + 1, i, h, k, h1, h2 => by
    rw [mayFrom, Bool.and_eq_true] at h
    by_cases e : k = i
    · subst e; exact h.1
    · exact mayFrom_ok w m (i + 1) h.2 k (by omega) (by omega)
/-- A window that was told has sides from 1 on. -/
theorem val_pos {w : Nat → Int × Int} (hm : mayW w = true) {x : Int} (hv : valW w x = true) : 1 ≤ (w x.toNat).1 ∧ 1 ≤ (w x.toNat).2 := by
  obtain ⟨h1, h2⟩ := (valW_iff w x).1 hv
  obtain ⟨h3, h4⟩ := (memB_iff x).1 h1
  have := mayFrom_ok w 9 0 hm x.toNat (by omega) (by omega)
  simp only [okW, winB, sideB, Bool.and_eq_true, Bool.or_eq_true, decide_eq_true_eq] at this
  rcases this.1 with h | h
  · exact absurd h h2
  · omega
theorem lst_pos {w : Nat → Int × Int} (hm : mayW w = true) (l : List Int) : 1 ≤ (lstW w l).2.1 ∧ 1 ≤ (lstW w l).2.2 :=
  ⟨(lst_le1 w l 1).2 ⟨by omega, fun x _ hv => (val_pos hm hv).1⟩, (lst_le2 w l 1).2 ⟨by omega, fun x _ hv => (val_pos hm hv).2⟩⟩
end Go.Proofs.Ythcnhibjddomdaa
