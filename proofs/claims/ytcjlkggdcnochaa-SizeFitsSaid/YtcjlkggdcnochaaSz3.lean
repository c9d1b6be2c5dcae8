/- Least windows: plain laws; the chapter's known rows. Conditions: as each statement says. -/
import Derived.Test.YtcjlkggdcnochaaSz2
import Derived.KernelRfl
set_option linter.unusedVariables false
set_option linter.unusedSimpArgs false
set_option linter.unusedSectionVars false
namespace Go.Proofs.Ytcjlkggdcnochaa
open Go
variable (G : Nat → Option (List AV))
set_option maxRecDepth 100000 in
theorem known29_P : aP G FT n_law29_known [] = some (.bool true) := aP_fuel 60 (by kernel_rfl)
/-- Did a member tell a window? -/
def valW (w : Nat → Int × Int) (id : Int) : Bool := memB id && !(decide ((w id.toNat).1 = 0) && decide ((w id.toNat).2 = 0))
theorem valW_iff (w : Nat → Int × Int) (id : Int) : valW w id = true ↔ memB id = true ∧ ¬ ((w id.toNat).1 = 0 ∧ (w id.toNat).2 = 0) := by
  unfold valW
  by_cases a : (w id.toNat).1 = 0 <;> by_cases b : (w id.toNat).2 = 0 <;> simp [a, b]
theorem stepW_val (w : Nat → Int × Int) (s : Bool × Int × Int) (id : Int) : stepW w s id = if valW w id = true then (true, min s.2.1 (w id.toNat).1, min s.2.2 (w id.toNat).2) else s := by
  unfold stepW
  simp only [← valW_iff]
theorem fold_told (w : Nat → Int × Int) : ∀ (l : List Int) (s : Bool × Int × Int), (l.foldl (stepW w) s).1 = (s.1 || l.any (valW w))
  | [], s => by simp
  | x :: l, s => by
    rw [List.foldl_cons, fold_told w l, stepW_val]
    by_cases h : valW w x = true
    · simp [h]
    · have h' : valW w x = false := by simpa using h
      simp [h']
theorem fold_le1 (w : Nat → Int × Int) (v : Int) : ∀ (l : List Int) (s : Bool × Int × Int), v ≤ (l.foldl (stepW w) s).2.1 ↔ v ≤ s.2.1 ∧ ∀ x ∈ l, valW w x = true → v ≤ (w x.toNat).1
  | [], s => by simp
  | x :: l, s => by
    rw [List.foldl_cons, fold_le1 w v l, stepW_val]
    by_cases h : valW w x = true
    · simp [h, Int.le_min, and_assoc]
    · simp [h]
theorem fold_le2 (w : Nat → Int × Int) (v : Int) : ∀ (l : List Int) (s : Bool × Int × Int), v ≤ (l.foldl (stepW w) s).2.2 ↔ v ≤ s.2.2 ∧ ∀ x ∈ l, valW w x = true → v ≤ (w x.toNat).2
  | [], s => by simp
  | x :: l, s => by
    rw [List.foldl_cons, fold_le2 w v l, stepW_val]
    by_cases h : valW w x = true
    · simp [h, Int.le_min, and_assoc]
    · simp [h]
theorem fold_mem1 (w : Nat → Int × Int) : ∀ (l : List Int) (s : Bool × Int × Int), (l.foldl (stepW w) s).2.1 = s.2.1 ∨ ∃ x ∈ l, valW w x = true ∧ (l.foldl (stepW w) s).2.1 = (w x.toNat).1
  | [], s => by simp
  | x :: l, s => by
    rw [List.foldl_cons]
    rcases fold_mem1 w l (stepW w s x) with h | ⟨y, h1, h2, h3⟩
    · rw [h, stepW_val]
      by_cases hx : valW w x = true
      · simp only [hx, if_true]
        rcases Int.le_total s.2.1 (w x.toNat).1 with h4 | h4
        · left; omega
        · right; exact ⟨x, by simp, hx, by omega⟩
      · simp [hx]
    · exact .inr ⟨y, by simp [h1], h2, h3⟩
theorem fold_mem2 (w : Nat → Int × Int) : ∀ (l : List Int) (s : Bool × Int × Int), (l.foldl (stepW w) s).2.2 = s.2.2 ∨ ∃ x ∈ l, valW w x = true ∧ (l.foldl (stepW w) s).2.2 = (w x.toNat).2
  | [], s => by simp
  | x :: l, s => by
    rw [List.foldl_cons]
    rcases fold_mem2 w l (stepW w s x) with h | ⟨y, h1, h2, h3⟩
    · rw [h, stepW_val]
      by_cases hx : valW w x = true
      · simp only [hx, if_true]
        rcases Int.le_total s.2.2 (w x.toNat).2 with h4 | h4
        · left; omega
        · right; exact ⟨x, by simp, hx, by omega⟩
      · simp [hx]
    · exact .inr ⟨y, by simp [h1], h2, h3⟩
theorem lst_told (w : Nat → Int × Int) (l : List Int) : (lstW w l).1 = l.any (valW w) := by rw [lstW, fold_told]; rfl
theorem lst_le1 (w : Nat → Int × Int) (l : List Int) (v : Int) : v ≤ (lstW w l).2.1 ↔ v ≤ 24 ∧ ∀ x ∈ l, valW w x = true → v ≤ (w x.toNat).1 := fold_le1 w v l _
theorem lst_le2 (w : Nat → Int × Int) (l : List Int) (v : Int) : v ≤ (lstW w l).2.2 ↔ v ≤ 40 ∧ ∀ x ∈ l, valW w x = true → v ≤ (w x.toNat).2 := fold_le2 w v l _
/-- Neither order nor repetition is anything to it. -/
theorem lst_same (w : Nat → Int × Int) {l l' : List Int} (h : ∀ x, x ∈ l ↔ x ∈ l') : lstW w l = lstW w l' := by
  have h0 : (lstW w l).1 = (lstW w l').1 := by
    rw [lst_told, lst_told, Bool.eq_iff_iff, List.any_eq_true, List.any_eq_true]
    exact ⟨fun ⟨x, a, b⟩ => ⟨x, (h x).1 a, b⟩, fun ⟨x, a, b⟩ => ⟨x, (h x).2 a, b⟩⟩
  have h1 : (lstW w l).2.1 = (lstW w l').2.1 := by
    have key : ∀ v, v ≤ (lstW w l).2.1 ↔ v ≤ (lstW w l').2.1 := fun v => by simp only [lst_le1, h]
    have a := (key _).1 (Int.le_refl _)
    have b := (key _).2 (Int.le_refl _)
    omega
  have h2 : (lstW w l).2.2 = (lstW w l').2.2 := by
    have key : ∀ v, v ≤ (lstW w l).2.2 ↔ v ≤ (lstW w l').2.2 := fun v => by simp only [lst_le2, h]
    have a := (key _).1 (Int.le_refl _)
    have b := (key _).2 (Int.le_refl _)
    omega
  exact Prod.ext h0 (Prod.ext h1 h2)
theorem mayFrom_ok (w : Nat → Int × Int) : ∀ (m i : Nat), mayFrom w m i = true → ∀ k, i ≤ k → k < i + m → okW w k = true
  | 0, i, _, k, h1, h2 => by omega
  | m + 1, i, h, k, h1, h2 => by
    rw [mayFrom, Bool.and_eq_true] at h
    by_cases e : k = i
    · subst e; exact h.1
    · exact mayFrom_ok w m (i + 1) h.2 k (by omega) (by omega)
/-- A window that was told has sides from 1 on. -/
theorem val_pos {w : Nat → Int × Int} (hm : mayW w = true) {x : Int} (hv : valW w x = true) : 1 ≤ (w x.toNat).1 ∧ 1 ≤ (w x.toNat).2 := by
  obtain ⟨h1, h2⟩ := (valW_iff w x).1 hv
  obtain ⟨h3, h4⟩ := (memB_iff x).1 h1
  have := mayFrom_ok w 9 0 hm x.toNat (by omega) (by omega)
  simp only [okW, winB, sideB, Bool.and_eq_true, Bool.or_eq_true, decide_eq_true_eq] at this
  rcases this.1 with h | h
  · exact absurd h h2
  · omega
theorem lst_pos {w : Nat → Int × Int} (hm : mayW w = true) (l : List Int) : 1 ≤ (lstW w l).2.1 ∧ 1 ≤ (lstW w l).2.2 :=
  ⟨(lst_le1 w l 1).2 ⟨by omega, fun x _ hv => (val_pos hm hv).1⟩, (lst_le2 w l 1).2 ⟨by omega, fun x _ hv => (val_pos hm hv).2⟩⟩
/-- The list that is gone over from both ends. -/
def backL (ids : List Int) : Nat → List Int
  | 0 => []
  | i + 1 => backL ids i ++ [ids.getD (ids.length - 1 - i) 0, ids.getD i 0]
theorem backL_len (ids : List Int) : ∀ i, (backL ids i).length = 2 * i
  | 0 => rfl
  | i + 1 => by rw [backL, List.length_append, backL_len ids i]; simp; omega
theorem backL_mem (ids : List Int) (x : Int) : ∀ i, i ≤ ids.length → (x ∈ backL ids i → x ∈ ids) ∧ (∀ j, j < i → ids.getD j 0 = x → x ∈ backL ids i)
  | 0, _ => ⟨by simp [backL], fun j h => by omega⟩
  | i + 1, hi => by
    obtain ⟨h1, h2⟩ := backL_mem ids x i (by omega)
    have g : ∀ k, k < ids.length → ids.getD k 0 ∈ ids := fun k hk => by
      rw [List.getD_eq_getElem?_getD, List.getElem?_eq_getElem hk]; exact List.getElem_mem _
    rw [backL]
    refine ⟨fun h => ?_, fun j hj hx => ?_⟩
    · rcases List.mem_append.1 h with h | h
      · exact h1 h
      · simp only [List.mem_cons, List.not_mem_nil, or_false] at h
        rcases h with rfl | rfl
        · exact g _ (by omega)
        · exact g _ (by omega)
    · by_cases e : j = i
      · subst e; simp [← hx]
      · exact List.mem_append_left _ (h2 j (by omega) hx)
theorem backL_all (ids : List Int) (x : Int) : x ∈ ids ↔ x ∈ backL ids ids.length := by
  obtain ⟨h1, h2⟩ := backL_mem ids x ids.length (Nat.le_refl _)
  refine ⟨fun h => ?_, h1⟩
  obtain ⟨k, hk, e⟩ := List.mem_iff_getElem.1 h
  exact h2 k hk (by rw [List.getD_eq_getElem?_getD, List.getElem?_eq_getElem hk]; exact e)
end Go.Proofs.Ytcjlkggdcnochaa
