/- MergeOrder: plain laws. Conditions: as each statement says. -/
import Derived.Test.YtfnonledcniojaaMg3
set_option linter.unusedVariables false
set_option linter.unusedSimpArgs false
set_option linter.unusedSectionVars false
set_option maxRecDepth 20000
set_option maxHeartbeats 1000000
namespace Go.Proofs.Ytfnonledcniojaa
open Go
/-- What stands in the queue, and whose turn is over. -/
structure Inv (q : List Pc) (inn may : List Int) (last : Nat) : Prop where
  len : may.length = inn.length
  srt : List.Pairwise (fun x y : Pc => x.2.1 < y.2.1) q
  gt : ∀ x ∈ q, (last : Int) < x.2.1
  at_ : ∀ x ∈ q, ∃ j : Nat, x.2.1 = (j : Int) + 1 ∧ inn[j]? = some x.1 ∧ may[j]? = some 1
  back : ∀ j : Nat, may[j]? = some 1 → ∃ x ∈ q, x.2.1 = (j : Int) + 1
  top : last ≤ inn.length
theorem Inv.nil : Inv [] [] [] 0 := ⟨rfl, .nil, by simp, by simp, by simp, Nat.le_refl _⟩
theorem Inv.cp {q : List Pc} {inn may : List Int} {last : Nat} (h : Inv q inn may last) : Inv (cpQ q) inn may last := by
  refine ⟨h.len, ?_, fun x hx => ?_, fun x hx => ?_, fun j hj => ?_, h.top⟩
  · rw [cpQ, List.pairwise_map]; exact h.srt
  · obtain ⟨y, hy, rfl⟩ := List.mem_map.1 hx; exact h.gt y hy
  · obtain ⟨y, hy, rfl⟩ := List.mem_map.1 hx; exact h.at_ y hy
  · obtain ⟨x, hx, e⟩ := h.back j hj
    exact ⟨_, List.mem_map_of_mem hx, e⟩
theorem Inv.pop {x : Pc} {q : List Pc} {inn may : List Int} {last : Nat} (h : Inv (x :: q) inn may last) : ∃ j : Nat, x.2.1 = (j : Int) + 1 ∧ last ≤ j ∧ j < inn.length ∧ inn[j]? = some x.1 ∧ may[j]? = some 1 ∧ (∀ i, last ≤ i → i < j → may[i]? ≠ some 1) ∧ Inv q inn (may.set j 2) (j + 1) := by
  obtain ⟨j, e, h1, h2⟩ := h.at_ x (List.mem_cons_self ..)
  have hg := h.gt x (List.mem_cons_self ..)
  have hs := List.pairwise_cons.1 h.srt
  have hj : j < inn.length := (List.getElem?_eq_some_iff.1 h1).1
  refine ⟨j, e, by omega, hj, h1, h2, fun i hi hij hm => ?_, ?_, hs.2, fun y hy => ?_, fun y hy => ?_, fun i hi => ?_, by omega⟩
  · obtain ⟨y, hy, ey⟩ := h.back i hm
    rcases List.mem_cons.1 hy with rfl | hy
    · omega
    · have := hs.1 y hy; omega
  · simp [h.len]
  · have := hs.1 y hy; omega
  · obtain ⟨i, ey, g1, g2⟩ := h.at_ y (List.mem_cons_of_mem _ hy)
    have := hs.1 y hy
    exact ⟨i, ey, g1, by rw [List.getElem?_set_ne (by omega)]; exact g2⟩
  · by_cases hij : j = i
    · subst hij
      rw [List.getElem?_set_self (by rw [h.len]; exact hj)] at hi
      cases hi
    · rw [List.getElem?_set_ne hij] at hi
      obtain ⟨y, hy, ey⟩ := h.back i hi
      rcases List.mem_cons.1 hy with rfl | hy
      · omega
      · exact ⟨y, hy, ey⟩
def cnt1 (l : List Int) : Nat := (l.filter fun x => decide (x = 1)).length
theorem cnt1_set : ∀ (l : List Int) (j : Nat), l[j]? = some 1 → cnt1 l = cnt1 (l.set j 2) + 1
  | [], j, h => by simp at h
  | x :: l, 0, h => by
    simp at h; subst h
    simp [cnt1]
  | x :: l, j + 1, h => by
    have ih := cnt1_set l j (by simpa using h)
    unfold cnt1 at *
    rw [List.set_cons_succ, List.filter_cons, List.filter_cons]
    split <;> simp [ih]
theorem Inv.count : ∀ (q : List Pc) (inn may : List Int) (last : Nat), Inv q inn may last → cnt1 may = q.length
  | [], inn, may, last, h => by
    unfold cnt1
    rw [List.length_nil, List.length_eq_zero_iff, List.filter_eq_nil_iff]
    intro x hx
    obtain ⟨j, hj, e⟩ := List.mem_iff_getElem.1 hx
    simp only [decide_eq_true_eq]
    intro e1
    obtain ⟨y, hy, _⟩ := h.back j (by rw [List.getElem?_eq_getElem hj, e, e1])
    simp at hy
  | x :: q, inn, may, last, h => by
    obtain ⟨j, _, _, _, _, h2, _, hI⟩ := h.pop
    rw [cnt1_set may j h2, Inv.count q inn _ _ hI, List.length_cons]
theorem Inv.push {q : List Pc} {inn may : List Int} {last : Nat} (h : Inv q inn may last) (m : Int) (l : List Int) (f : Bool) : Inv (q ++ [(m, (inn.length : Int) + 1, l, f)]) (inn ++ [m]) (may ++ [1]) last := by
  have hlt : ∀ x ∈ q, x.2.1 < (inn.length : Int) + 1 := fun x hx => by
    obtain ⟨j, e, h1, _⟩ := h.at_ x hx
    have := (List.getElem?_eq_some_iff.1 h1).1
    omega
  have ht := h.top
  refine ⟨by simp [h.len], ?_, fun x hx => ?_, fun x hx => ?_, fun j hj => ?_, by simp; omega⟩
  · rw [List.pairwise_append]
    exact ⟨h.srt, List.pairwise_singleton .., fun x hx y hy => by simp at hy; subst hy; exact hlt x hx⟩
  · rcases List.mem_append.1 hx with hx | hx
    · exact h.gt x hx
    · simp at hx; subst hx; simp only; omega
  · rcases List.mem_append.1 hx with hx | hx
    · obtain ⟨j, e, h1, h2⟩ := h.at_ x hx
      have a1 := (List.getElem?_eq_some_iff.1 h1).1
      have a2 := (List.getElem?_eq_some_iff.1 h2).1
      exact ⟨j, e, by rw [List.getElem?_append_left a1]; exact h1, by rw [List.getElem?_append_left a2]; exact h2⟩
    · simp at hx; subst hx
      refine ⟨inn.length, rfl, by simp, ?_⟩
      rw [← h.len]; simp
  · by_cases hjl : j < may.length
    · rw [List.getElem?_append_left hjl] at hj
      obtain ⟨x, hx, e⟩ := h.back j hj
      exact ⟨x, List.mem_append_left _ hx, e⟩
    · have : j = may.length := by have := (List.getElem?_eq_some_iff.1 hj).1; simp at this; omega
      subst this
      exact ⟨_, List.mem_append_right _ (List.mem_singleton_self _), by simp [h.len]⟩
theorem Inv.skip {q : List Pc} {inn may : List Int} {last : Nat} (h : Inv q inn may last) (m : Int) : Inv q (inn ++ [m]) (may ++ [0]) last := by
  have ht := h.top
  refine ⟨by simp [h.len], h.srt, h.gt, fun x hx => ?_, fun j hj => ?_, by simp; omega⟩
  · obtain ⟨j, e, h1, h2⟩ := h.at_ x hx
    have a1 := (List.getElem?_eq_some_iff.1 h1).1
    have a2 := (List.getElem?_eq_some_iff.1 h2).1
    exact ⟨j, e, by rw [List.getElem?_append_left a1]; exact h1, by rw [List.getElem?_append_left a2]; exact h2⟩
  · by_cases hjl : j < may.length
    · rw [List.getElem?_append_left hjl] at hj
      exact h.back j hj
    · have : j = may.length := by have := (List.getElem?_eq_some_iff.1 hj).1; simp at this; omega
      subst this
      simp at hj
/-- What a member's dropping leaves. -/
def dropV (k : Int) (inn may : List Int) : List Int := List.zipWith (fun a b => if a = k ∧ b = 1 then 0 else b) inn may
theorem dropV_at {k : Int} {inn may : List Int} (h : may.length = inn.length) (j : Nat) : (dropV k inn may)[j]? = (may[j]?).map fun b => if inn[j]? = some k ∧ b = 1 then 0 else b := by
  unfold dropV
  rw [List.getElem?_zipWith]
  cases h1 : inn[j]? with
  | none =>
    have : may[j]? = none := by rw [List.getElem?_eq_none_iff] at *; omega
    rw [this]; rfl
  | some a =>
    cases may[j]? with
    | none => rfl
    | some b => simp
theorem Inv.drop {q : List Pc} {inn may : List Int} {last : Nat} (h : Inv q inn may last) (k : Int) : Inv (q.filter fun x => !decide (x.1 = k)) inn (dropV k inn may) last := by
  refine ⟨by simp [dropV, h.len], h.srt.filter _, fun x hx => h.gt x (List.mem_filter.1 hx).1, fun x hx => ?_, fun j hj => ?_, h.top⟩
  · obtain ⟨hx1, hx2⟩ := List.mem_filter.1 hx
    obtain ⟨j, e, h1, h2⟩ := h.at_ x hx1
    refine ⟨j, e, h1, ?_⟩
    have hk : ¬ x.1 = k := by simpa using hx2
    rw [dropV_at h.len, h1, h2]
    simp [hk]
  · rw [dropV_at h.len] at hj
    cases hm : may[j]? with
    | none => rw [hm] at hj; cases hj
    | some b =>
      rw [hm] at hj
      simp only [Option.map_some, Option.some.injEq] at hj
      by_cases hc : inn[j]? = some k ∧ b = 1
      · rw [if_pos hc] at hj; cases hj
      · rw [if_neg hc] at hj
        subst hj
        obtain ⟨x, hx, e⟩ := h.back j hm
        refine ⟨x, List.mem_filter.2 ⟨hx, ?_⟩, e⟩
        obtain ⟨i, e2, h1, _⟩ := h.at_ x hx
        have : i = j := by omega
        subst this
        simp only [Bool.not_eq_true', decide_eq_false_iff_not]
        intro hk
        exact hc ⟨by rw [h1, hk], rfl⟩
end Go.Proofs.Ytfnonledcniojaa
