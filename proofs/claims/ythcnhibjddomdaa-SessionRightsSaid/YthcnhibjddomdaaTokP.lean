/- Plain laws of tokens. Conditions: as each statement says. -/
import Derived.Test.YthcnhibjddomdaaTok4
import Derived.Test.YthcnhibjddomdaaM3
set_option linter.unusedVariables false
set_option linter.unusedSimpArgs false
set_option linter.unusedSectionVars false
namespace Go.Proofs.Ythcnhibjddomdaa
open Go
theorem mayRun_iff : ∀ (l seen : List Int), (mayRun seen l).1 = true ↔ (∀ x ∈ l, 1 ≤ x ∧ x ≤ 8 ∧ x ∉ seen) ∧ l.Nodup
  | [], seen => by simp [mayRun]
  | y :: l, seen => by
    unfold mayRun
    by_cases h : numB y = true ∧ y ∉ seen
    · rw [if_pos h, mayRun_iff l (y :: seen)]
      have h' := h
      rw [numB_iff] at h'
      simp only [List.mem_cons, not_or, List.nodup_cons]
      constructor
      · rintro ⟨h1, h2⟩
        refine ⟨fun x hx => ?_, fun hy => ?_, h2⟩
        · rcases hx with rfl | hx
          · exact ⟨h'.1.1, h'.1.2, h'.2⟩
          · exact ⟨(h1 x hx).1, (h1 x hx).2.1, (h1 x hx).2.2.2⟩
        · exact (h1 y hy).2.2.1 rfl
      · rintro ⟨h1, h2, h3⟩
        exact ⟨fun x hx => ⟨(h1 x (.inr hx)).1, (h1 x (.inr hx)).2.1, fun e => h2 (e ▸ hx), (h1 x (.inr hx)).2.2⟩, h3⟩
    · rw [if_neg h]
      simp only [Bool.false_eq_true, false_iff]
      rintro ⟨h1, _⟩
      have := h1 y (by simp)
      exact h ⟨(numB_iff y).2 ⟨this.1, this.2.1⟩, this.2.2⟩
/-- Who holds a token, and who waits. -/
def allT (h : Int) (q : List Int) : List Int := if h = 0 then [] else h :: q
/-- The token of such a list. -/
def ofT : List Int → Int × List Int
  | [] => (0, [])
  | x :: l => (x, l)
/-- Lists that are a token's. -/
def GoodT (l : List Int) : Prop := (∀ x ∈ l, 1 ≤ x ∧ x ≤ 8) ∧ l.Nodup
theorem mayT_iff (h : Int) (q : List Int) : mayT h q = true ↔ GoodT (allT h q) ∧ (h = 0 → q = []) := by
  unfold mayT allT GoodT
  by_cases e : h = 0
  · simp [e]
  · rw [if_neg e, if_neg e, mayRun_iff]
    simp [e]
theorem all_of {l : List Int} (hl : GoodT l) : allT (ofT l).1 (ofT l).2 = l := by
  cases l with
  | nil => rfl
  | cons x l =>
    have := hl.1 x (by simp)
    exact if_neg (show ¬ x = 0 by omega)
theorem may_of {l : List Int} (hl : GoodT l) : mayT (ofT l).1 (ofT l).2 = true := by
  rw [mayT_iff, all_of hl]
  refine ⟨hl, fun e => ?_⟩
  cases l with
  | nil => rfl
  | cons x l => have := hl.1 x (by simp); simp [ofT] at e; omega
theorem GoodT.filter {l : List Int} (hl : GoodT l) (p : Int → Bool) : GoodT (l.filter p) := ⟨fun x hx => hl.1 x (List.mem_filter.1 hx).1, hl.2.filter p⟩
theorem keepT_of {h : Int} {q : List Int} (ids : List Int) (hm : mayT h q = true) : keepT h q ids = ((ofT ((allT h q).filter fun x => decide (x ∈ ids))).1, (ofT ((allT h q).filter fun x => decide (x ∈ ids))).2, 0) := by
  have hm' := (mayT_iff h q).1 hm
  unfold keepT
  rw [if_pos hm]
  by_cases e : h = 0
  · have := hm'.2 e
    subst this
    simp [e, allT, ofT]
  · by_cases hi : h ∈ ids
    · simp [e, hi, allT, ofT]
    · simp only [e, hi, allT, ne_eq, not_false_eq_true, and_self, if_true, if_false, List.filter_cons, decide_false, Bool.false_eq_true]
      cases q.filter (fun x => decide (x ∈ ids)) <;> rfl
theorem idxFrom_at (x : Int) : ∀ (l : List Int) (i : Nat), x ∈ l → ∃ k : Nat, idxFrom x l i = ((i + k : Nat) : Int) ∧ l[k]? = some x ∧ x ∉ l.take k
  | [], i, h => by simp at h
  | y :: l, i, h => by
    unfold idxFrom
    by_cases e : x = y
    · exact ⟨0, by simp [e], by simp [e], by simp⟩
    · rw [if_neg e]
      obtain ⟨k, h1, h2, h3⟩ := idxFrom_at x l (i + 1) (by simpa [e] using h)
      exact ⟨k + 1, by rw [h1]; congr 1; omega, by simpa using h2, by simp [e, h3]⟩
theorem erase_filter {l : List Int} (hn : l.Nodup) {k : Nat} {x : Int} (hk : l[k]? = some x) : l.eraseIdx k = l.filter fun y => !decide (y = x) := by
  obtain ⟨hlt, rfl⟩ := List.getElem?_eq_some_iff.1 hk
  have e : l = l.take k ++ l[k] :: l.drop (k + 1) := by simp
  rw [List.eraseIdx_eq_take_drop_succ]
  generalize l[k] = x at e
  have hn2 : (l.take k ++ x :: l.drop (k + 1)).Nodup := by rw [← e]; exact hn
  conv => rhs; rw [e]
  rw [List.filter_append, List.filter_cons]
  simp only [decide_true, Bool.not_true, Bool.false_eq_true, if_false]
  rw [List.nodup_append] at hn2
  obtain ⟨_, h2, h3⟩ := hn2
  rw [List.nodup_cons] at h2
  rw [List.filter_eq_self.2 (fun y hy => by simpa using h3 y hy x (by simp)), List.filter_eq_self.2 (fun y hy => by simp; intro e; exact h2.1 (e ▸ hy))]
theorem freeT_of {h : Int} {q : List Int} (id : Int) (hm : mayT h q = true) (hn : numB id = true) : freeT h q id = ((ofT ((allT h q).filter fun x => !decide (x = id))).1, (ofT ((allT h q).filter fun x => !decide (x = id))).2, 0) := by
  have hm' := (mayT_iff h q).1 hm
  have hid := (numB_iff id).1 hn
  unfold freeT
  rw [if_pos ⟨hm, hn⟩]
  by_cases e : h = 0
  · have := hm'.2 e
    subst this
    have : ¬ (0 = id) := by omega
    simp [e, this, allT, ofT, idxFrom]
  · have hg := hm'.1
    simp only [allT, e, if_false] at hg
    have hnd := hg.2
    rw [List.nodup_cons] at hnd
    by_cases hh : h = id
    · subst hh
      rw [if_pos rfl]
      simp only [allT, e, if_false, List.filter_cons, decide_true, Bool.not_true, Bool.false_eq_true]
      rw [List.filter_eq_self.2 (fun y hy => by simp; intro e; exact hnd.1 (e ▸ hy))]
      cases q <;> rfl
    · rw [if_neg hh]
      simp only [allT, e, hh, if_false, List.filter_cons, decide_false, Bool.not_false, if_true, ofT]
      have hmem := idxFrom_mem id q 0
      by_cases hi : id ∈ q
      · rw [if_pos (hmem.2 hi)]
        obtain ⟨k, h1, h2, _⟩ := idxFrom_at id q 0 hi
        rw [h1]
        simp only [Nat.zero_add, Int.toNat_natCast]
        rw [erase_filter hnd.2 h2]
      · rw [if_neg (fun hx => hi (hmem.1 hx))]
        rw [List.filter_eq_self.2 (fun y hy => by simp; intro e; exact hi (e ▸ hy))]
end Go.Proofs.Ythcnhibjddomdaa
