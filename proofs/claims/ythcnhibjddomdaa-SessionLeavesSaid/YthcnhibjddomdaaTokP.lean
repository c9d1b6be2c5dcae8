/- Plain laws of tokens. Conditions: as each statement says. -/
import Derived.Test.YthcnhibjddomdaaTok4
import Derived.Test.YthcnhibjddomdaaM3
set_option linter.unusedVariables false
set_option linter.unusedSimpArgs false
set_option linter.unusedSectionVars false
namespace Go.Proofs.Ythcnhibjddomdaa
open Go
theorem mayRun_iff : ∀ (l seen : List Int), (mayRun seen l).1 = true ↔ (∀ x ∈ l, 1 ≤ x ∧ x ≤ 8 ∧ x ∉ seen) ∧ l.Nodup
  | [], seen => by simp [mayRun]
  | y :: l, seen => by
    unfold mayRun
    by_cases h : numB y = true ∧ y ∉ seen
    · rw [if_pos h, mayRun_iff l (y :: seen)]
      have h' := h
      rw [numB_iff] at h'
      simp only [List.mem_cons, not_or, List.nodup_cons]
      constructor
      · rintro ⟨h1, h2⟩
        refine ⟨fun x hx => ?_, fun hy => ?_, h2⟩
        · rcases hx with rfl | hx
          · exact ⟨h'.1.1, h'.1.2, h'.2⟩
          · exact ⟨(h1 x hx).1, (h1 x hx).2.1, (h1 x hx).2.2.2⟩
        · exact (h1 y hy).2.2.1 rfl
      · rintro ⟨h1, h2, h3⟩
        exact ⟨fun x hx => ⟨(h1 x (.inr hx)).1, (h1 x (.inr hx)).2.1, fun e => h2 (e ▸ hx), (h1 x (.inr hx)).2.2⟩, h3⟩
    · rw [if_neg h]
      simp only [Bool.false_eq_true, false_iff]
      rintro ⟨h1, _⟩
      have := h1 y (by simp)
      exact h ⟨(numB_iff y).2 ⟨this.1, this.2.1⟩, this.2.2⟩
/-- Who holds a token, and who waits. -/
def allT (h : Int) (q : List Int) : List Int := if h = 0 then [] else h :: q
/-- The token of such a list. -/
def ofT : List Int → Int × List Int
  | [] => (0, [])
  | x :: l => (x, l)
/-- Lists that are a token's. -/
def GoodT (l : List Int) : Prop := (∀ x ∈ l, 1 ≤ x ∧ x ≤ 8) ∧ l.Nodup
theorem mayT_iff (h : Int) (q : List Int) : mayT h q = true ↔ GoodT (allT h q) ∧ (h = 0 → q = []) := by
  unfold mayT allT GoodT
  by_cases e : h = 0
  · simp [e]
  · rw [if_neg e, if_neg e, mayRun_iff]
    simp [e]
theorem all_of {l : List Int} (hl : GoodT l) : allT (ofT l).1 (ofT l).2 = l := by
  cases l with
  | nil => rfl
  | cons x l =>
    have := hl.1 x (by simp)
    exact if_neg (show ¬ x = 0 by omega)
theorem may_of {l : List Int} (hl : GoodT l) : mayT (ofT l).1 (ofT l).2 = true := by
  rw [mayT_iff, all_of hl]
  refine ⟨hl, fun e => ?_⟩
  cases l with
  | nil => rfl
  | cons x l => have := hl.1 x (by simp); simp [ofT] at e; omega
theorem GoodT.filter {l : List Int} (hl : GoodT l) (p : Int → Bool) : GoodT (l.filter p) := ⟨fun x hx => hl.1 x (List.mem_filter.1 hx).1, hl.2.filter p⟩
theorem keepT_of {h : Int} {q : List Int} (ids : List Int) (hm : mayT h q = true) : keepT h q ids = ((ofT ((allT h q).filter fun x => decide (x ∈ ids))).1, (ofT ((allT h q).filter fun x => decide (x ∈ ids))).2, 0) := by
  have hm' := (mayT_iff h q).1 hm
  unfold keepT
  rw [if_pos hm]
  by_cases e : h = 0
  · have := hm'.2 e
    subst this
    simp [e, allT, ofT]
  · by_cases hi : h ∈ ids
    · simp [e, hi, allT, ofT]
    · simp only [e, hi, allT, ne_eq, not_false_eq_true, and_self, if_true, if_false, List.filter_cons, decide_false, Bool.false_eq_true]
      cases q.filter (fun x => decide (x ∈ ids)) <;> rfl
end Go.Proofs.Ythcnhibjddomdaa
