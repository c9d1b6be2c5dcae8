/- Plain laws of tokens. Conditions: as each statement says. -/
import Derived.Test.YthcnhibjddomdaaGreatTok4
import Derived.Test.YthcnhibjddomdaaGreatM3
set_option linter.unusedVariables false
set_option linter.unusedSimpArgs false
set_option linter.unusedSectionVars false
namespace Go.Proofs.YthcnhibjddomdaaGreat
open Go
theorem mayRun_iff : ∀ (l seen : List Int), (mayRun seen l).1 = true ↔ (∀ x ∈ l, 1 ≤ x ∧ x ≤ 8 ∧ x ∉ seen) ∧ l.Nodup
  | [], seen => by simp [mayRun]
  | y :: l, seen => by
    unfold mayRun
    by_cases h : numB y = true ∧ y ∉ seen
    · rw [if_pos h, mayRun_iff l (y :: seen)]
      have h' := h
      rw [numB_iff] at h'
      simp only [List.mem_cons, not_or, List.nodup_cons]
      constructor
      · rintro ⟨h1, h2⟩
        refine ⟨fun x hx => ?_, fun hy => ?_, h2⟩
        · rcases hx with rfl | hx
          · exact ⟨h'.1.1, h'.1.2, h'.2⟩
          · exact ⟨(h1 x hx).1, (h1 x hx).2.1, (h1 x hx).2.2.2⟩
        · exact (h1 y hy).2.2.1 rfl
      · rintro ⟨h1, h2, h3⟩
        exact ⟨fun x hx => ⟨(h1 x (.inr hx)).1, (h1 x (.inr hx)).2.1, fun e => h2 (e ▸ hx), (h1 x (.inr hx)).2.2⟩, h3⟩
    · rw [if_neg h]
      simp only [Bool.false_eq_true, false_iff]
      rintro ⟨h1, _⟩
      have := h1 y (by simp)
      exact h ⟨(numB_iff y).2 ⟨this.1, this.2.1⟩, this.2.2⟩
/-- Who holds a token, and who waits. -/
def allT (h : Int) (q : List Int) : List Int := if h = 0 then [] else h :: q
/-- Lists that are a token's. -/
def GoodT (l : List Int) : Prop := (∀ x ∈ l, 1 ≤ x ∧ x ≤ 8) ∧ l.Nodup
theorem mayT_iff (h : Int) (q : List Int) : mayT h q = true ↔ GoodT (allT h q) ∧ (h = 0 → q = []) := by
  unfold mayT allT GoodT
  by_cases e : h = 0
  · simp [e]
  · rw [if_neg e, if_neg e, mayRun_iff]
    simp [e]
theorem GoodT.filter {l : List Int} (hl : GoodT l) (p : Int → Bool) : GoodT (l.filter p) := ⟨fun x hx => hl.1 x (List.mem_filter.1 hx).1, hl.2.filter p⟩
end Go.Proofs.YthcnhibjddomdaaGreat
