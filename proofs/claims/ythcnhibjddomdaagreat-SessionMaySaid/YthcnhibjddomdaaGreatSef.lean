/- Sessions: plain laws: rosters, those who are not there, tokens, May put together. Conditions: as each statement says. -/
import Derived.Test.YthcnhibjddomdaaGreatSee
import Derived.Test.YthcnhibjddomdaaGreatTokP
import Derived.Test.YthcnhibjddomdaaGreatMg2
import Derived.Test.YthcnhibjddomdaaGreatSz3
set_option linter.unusedVariables false
set_option linter.unusedSimpArgs false
set_option linter.unusedSectionVars false
namespace Go.Proofs.YthcnhibjddomdaaGreat
open Go
theorem ilt_or (a b : Int) : a < b ∨ b ≤ a := by omega
/-! ### Rosters -/
theorem there_iff {l : List (Int × Int)} (hm : mayM l = true) (id : Int) : thereB l id = true ↔ roleOf l id ≠ 0 := by
  unfold thereB idB
  simp only [hm, Bool.true_and, Bool.and_eq_true, decide_eq_true_eq]
  constructor
  · rintro ⟨_, h⟩; exact h
  · intro h
    refine ⟨⟨?_, ?_⟩, h⟩
    · rcases ilt_or 0 id with h1 | h1
      · omega
      · exact absurd (roleOf_low l 0 hm id h1) h
    · rcases ilt_or 8 id with h1 | h1
      · exact absurd (roleOf_hi l 0 hm id h1) h
      · exact h1
theorem wr_iff {l : List (Int × Int)} (hm : mayM l = true) (id : Int) : wrB l id = true ↔ roleOf l id = 2 := by
  unfold wrB
  rw [Bool.and_eq_true, decide_eq_true_eq, there_iff hm]
  constructor
  · exact fun h => h.2
  · intro h; exact ⟨by omega, h⟩
/-! ### Those who are not there -/
/-! ### A copy -/
/-! ### Tokens -/
theorem tok_all {h : Int} {tq : List Int} {l : List (Int × Int)} (hm : mayT h tq = true) : ((h = 0 ∨ wrB l h = true) ∧ ∀ id ∈ tq, wrB l id = true) ↔ ∀ x ∈ allT h tq, wrB l x = true := by
  have h0 := ((mayT_iff h tq).1 hm).2
  unfold allT
  by_cases e : h = 0
  · rw [if_pos e, h0 e]; simp [e]
  · rw [if_neg e]; simp [e]
/-! ### May, put together -/
end Go.Proofs.YthcnhibjddomdaaGreat
