/- GridErases. Conditions: none. -/
import Derived.Test.YtmmkjbcklghopaaDoorGrC
import Derived.Test.YtmmkjbcklghopaaDoorGr8
set_option linter.unusedVariables false
set_option linter.unusedSimpArgs false
set_option linter.unusedSectionVars false
set_option maxRecDepth 20000
set_option maxHeartbeats 4000000
namespace Go.Proofs.YtmmkjbcklghopaaDoor
open Go
theorem eraseT_len {l : List Cl} (h : mayL l = true) {b f k : Int} (hp : penB b f k = true) (s e : Int) : (eraseT l s e b f k).length = l.length := by
  rw [erase_eq h hp]
  have hm := ((mayL_iff l).1 h).2
  unfold eraseR
  split
  · rfl
  · rw [overR_len (by rw [tearR_len, tearR_len]; omega), tearR_len, tearR_len]
theorem erGT_len {g : List Rw} {x0 x1 y0 y1 b f k : Int} (h : (mayG (gL g) && penB b f k) = true) : (erGT g x0 x1 y0 y1 b f k).length = g.length := by
  unfold erGT; rw [if_pos h]; split <;> simp
theorem erGT_rat {g : List Rw} {x0 x1 y0 y1 b f k : Int} (h : (mayG (gL g) && penB b f k) = true) {i : Nat} (hi : i < g.length) :
    rat (erGT g x0 x1 y0 y1 b f k) i = if (plB g.length (rat g 0).1.length x0 x1 && plB g.length (rat g 0).1.length y0 y1) = true then eraC g x0 x1 y0 y1 (rat g 0).1.length b f k i else fr (rat g i) := by
  unfold erGT; rw [if_pos h]
  split
  · exact rat_range _ hi
  · exact rat_map_fr g i hi
theorem erGT_rowlen {g : List Rw} {x0 x1 y0 y1 b f k : Int} (h : (mayG (gL g) && penB b f k) = true) {i : Nat} (hi : i < g.length) : (rat (erGT g x0 x1 y0 y1 b f k) i).1.length = (rat g 0).1.length := by
  have h' := h
  rw [Bool.and_eq_true] at h'
  have hM := (mayG_iff g).1 h'.1
  rw [erGT_rat h hi]
  split
  · unfold eraC
    split
    · rw [eraseT_len (hM.may i hi) h'.2]; exact hM.len i hi
    · exact hM.len i hi
  · exact hM.len i hi
theorem erGT_lo {g : List Rw} (hl : Lo g) (x0 x1 y0 y1 b f k : Int) : Lo (erGT g x0 x1 y0 y1 b f k) := by
  by_cases h : (mayG (gL g) && penB b f k) = true
  · have hM := (mayG_iff g).1 (by rw [Bool.and_eq_true] at h; exact h.1)
    refine ⟨by rw [erGT_len h]; exact hl.1, fun i hi => ?_⟩
    rw [erGT_len h] at hi
    rw [erGT_rowlen h hi]
    have := hM.w2; omega
  · unfold erGT; rw [if_neg h]
    exact ⟨by simp, fun i hi => by simp at hi⟩
theorem tys_two {g : List AV} (h : HasTys [.int .i64, .int .i64] g) : ∃ a b, g = [.int .i64 a, .int .i64 b] ∧ InK .i64 a ∧ InK .i64 b := by
  obtain ⟨a, g1, rfl, h1, r1⟩ := tys_cons h
  obtain ⟨n1, rfl, k1⟩ := ty_int h1
  obtain ⟨n2, rfl, k2⟩ := tys_int1 r1
  exact ⟨n1, n2, rfl, k1, k2⟩
end Go.Proofs.YtmmkjbcklghopaaDoor
