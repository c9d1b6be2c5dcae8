/- Rows that go up and down, twice; GridTwice, GridBack. Conditions: none. -/
import Derived.Test.YtmmkjbcklghopaaDoorGr8
import Derived.Test.YtmmkjbcklghopaaDoorGr9
set_option linter.unusedVariables false
set_option linter.unusedSimpArgs false
set_option linter.unusedSectionVars false
set_option maxRecDepth 20000
set_option maxHeartbeats 4000000
namespace Go.Proofs.YtmmkjbcklghopaaDoor
open Go
theorem scr_len {g : List Rw} {top bot n b f k : Int} (h : (mayG (gL g) && penB b f k) = true) : (scrollT g top bot n b f k).length = g.length := by
  unfold scrollT; rw [if_pos h]; split <;> simp
theorem scr_rat {g : List Rw} {top bot n b f k : Int} (h : (mayG (gL g) && penB b f k) = true) {i : Nat} (hi : i < g.length) :
    rat (scrollT g top bot n b f k) i = if top < 0 ∨ bot < top ∨ (g.length : Int) ≤ bot then fr (rat g i) else scrC g top bot n (rat g 0).1.length k i := by
  unfold scrollT; rw [if_pos h]
  split
  · exact rat_map_fr g i hi
  · exact rat_range _ hi
theorem blanks_may {k : Int} (h : inN k 256 = true) {W : Nat} (hW : W ≤ 1000) : mayL (List.replicate W (blankC k)) = true := (mayL_iff _).2 ⟨by simp; omega, may_blanks h W⟩
theorem scr_may {g : List Rw} {top bot n b f k : Int} (h1 : mayG (gL g) = true) (h2 : penB b f k = true) : MayR (scrollT g top bot n b f k) (rat g 0).1.length := by
  have hM := (mayG_iff g).1 h1
  have hh : (mayG (gL g) && penB b f k) = true := by rw [h1, h2]; rfl
  have key : ∀ i, i < g.length → (rat (scrollT g top bot n b f k) i).1.length = (rat g 0).1.length ∧ mayL (rat (scrollT g top bot n b f k) i).1 = true := by
    intro i hi
    rw [scr_rat hh hi]
    split
    · exact ⟨hM.len i hi, hM.may i hi⟩
    · unfold scrC
      split
      · exact ⟨hM.len i hi, hM.may i hi⟩
      · split
        · exact ⟨by simp, blanks_may (penB_k h2) (by have := hM.w2; omega)⟩
        · exact ⟨hM.len _ (by omega), hM.may _ (by omega)⟩
  have hl := scr_len (top := top) (bot := bot) (n := n) hh
  exact ⟨by rw [hl]; exact hM.n1, by rw [hl]; exact hM.n2, hM.w1, hM.w2, fun i hi => (key i (by omega)).1, fun i hi => (key i (by omega)).2⟩
theorem scr_W {g : List Rw} {top bot n b f k : Int} (h1 : mayG (gL g) = true) (h2 : penB b f k = true) : (rat (scrollT g top bot n b f k) 0).1.length = (rat g 0).1.length :=
  (scr_may h1 h2).len 0 (by have := (scr_may (top := top) (bot := bot) (n := n) h1 h2).n1; omega)
theorem scr_mayG {g : List Rw} {top bot n b f k : Int} (h1 : mayG (gL g) = true) (h2 : penB b f k = true) : mayG (gL (scrollT g top bot n b f k)) = true :=
  (mayG_iff _).2 (by rw [scr_W h1 h2]; exact scr_may h1 h2)
theorem scroll_back {g : List Rw} {top bot n b f k : Int} (h1 : mayG (gL g) = true) (h2 : penB b f k = true) (t0 : 0 ≤ top) (tb : top ≤ bot) (hb : bot < g.length) (n0 : 0 ≤ n) (nb : n ≤ bot - top) {i : Nat} (hi : i < g.length) :
    (rat (scrollT (scrollT g top bot n b f k) top bot (-n) b f k) i).1 = if top ≤ i ∧ i < top + n then List.replicate (rat g 0).1.length (blankC k) else (rat g i).1 := by
  have h : (mayG (gL g) && penB b f k) = true := by rw [h1, h2]; rfl
  have hh : (mayG (gL (scrollT g top bot n b f k)) && penB b f k) = true := by rw [scr_mayG h1 h2, h2]; rfl
  have c : ¬ (top < 0 ∨ bot < top ∨ (g.length : Int) ≤ bot) := by omega
  rw [scr_rat hh (by rw [scr_len h]; exact hi), scr_len h, scr_W h1 h2, if_neg c]
  have e : ∀ j, j < g.length → rat (scrollT g top bot n b f k) j = scrC g top bot n (rat g 0).1.length k j := fun j hj => by rw [scr_rat h hj, if_neg c]
  unfold scrC
  by_cases k1 : (i : Int) < top ∨ bot < i
  · rw [if_pos k1, if_neg (by omega), e i hi]
    unfold scrC
    rw [if_pos k1]; rfl
  · rw [if_neg k1]
    by_cases k2 : i + -n < top ∨ bot < i + -n
    · rw [if_pos k2, if_pos (by omega)]
    · rw [if_neg k2, if_neg (by omega)]
      show (rat _ _).1 = _
      rw [e _ (by omega)]
      unfold scrC
      rw [if_neg (by omega), if_neg (by omega)]
      show (rat g _).1 = _
      congr 2
      omega
end Go.Proofs.YtmmkjbcklghopaaDoor
