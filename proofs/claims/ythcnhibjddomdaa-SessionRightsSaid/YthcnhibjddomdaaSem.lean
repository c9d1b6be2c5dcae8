/- SessionLeaves: plain laws. Conditions: as each statement says. -/
import Derived.Test.YthcnhibjddomdaaSek
set_option linter.unusedVariables false
set_option linter.unusedSimpArgs false
set_option linter.unusedSectionVars false
set_option maxRecDepth 20000
set_option maxHeartbeats 4000000
namespace Go.Proofs.Ythcnhibjddomdaa
open Go
theorem withS_q {s : Ses} (hs : sesB s = true) (l : List (Int × Int)) (lf : Bool) : (withS s l lf).q = (cpQ s.q).filter fun x => !(decide (0 ≤ x.1) && absB l 0 x.1.toNat) := by
  rw [withS_eq hs]
  have e : (memS s l lf).q = cpQ s.q := cpS_q (ses_parts hs).2.2.1
  show List.filter _ (memS s l lf).q = _
  rw [e]; rfl
theorem abs_role {l : List (Int × Int)} (hl : mayM l = true) {n : Nat} (h : n < 9) : absB l 0 n = decide (roleOf l n = 0) := by
  rw [abs_0 l h]
  cases ht : thereB l n with
  | true => have := (there_iff hl n).1 ht; simp [this]
  | false =>
    have : ¬ roleOf l n ≠ 0 := fun h => by have := (there_iff hl n).2 h; rw [ht] at this; cases this
    have := Decidable.not_not.1 this
    simp [this]
theorem out_false {s : Ses} (hs : sesB s = true) {t : Pc} (ht : t ∈ s.q) : 1 ≤ t.1 ∧ t.1 ≤ 8 ∧ roleOf s.mem t.1 ≠ 0 := by
  obtain ⟨g1, g2, g3, g4, g5, g6, g7, g8, g9⟩ := ses_parts hs
  have := pc_id g3 ht
  exact ⟨this.1, this.2.1, (there_iff g1 _).1 ((outB_iff s t).1 (g9 t ht)).1⟩
/-- What comes of one who leaves: the queue. -/
theorem left_q {s : Ses} (hs : sesB s = true) {j : Nat} (h1 : 1 ≤ j) (h8 : j ≤ 8) (lf : Bool) : (withS s (withM s.mem j 0) lf).q = (cpQ s.q).filter fun t => !decide (t.1 = (j : Int)) := by
  have g1 := (ses_parts hs).1
  have m1 := withM_may g1 (id := (j : Int)) (r := 0) (.inl rfl)
  rw [withS_q hs]
  refine List.filter_congr fun t ht => ?_
  obtain ⟨y, hy, rfl⟩ := List.mem_map.1 ht
  obtain ⟨a, b, c⟩ := out_false hs hy
  have hn : (cp y).1.toNat < 9 := by show y.1.toNat < 9; omega
  rw [abs_role m1 hn]
  have hc : (((cp y).1.toNat : Nat) : Int) = y.1 := by show ((y.1.toNat : Nat) : Int) = y.1; omega
  rw [hc, withM_role _ _ _ y.1 a b]
  have h0 : decide (0 ≤ (cp y).1) = true := by show decide (0 ≤ y.1) = true; simp; omega
  rw [h0, Bool.true_and]
  show (!decide ((if y.1 = (j : Int) then 0 else roleOf s.mem y.1) = 0)) = !decide (y.1 = (j : Int))
  by_cases e : y.1 = (j : Int)
  · simp [e]
  · rw [if_neg e]; simp [e, c]
/-- The queue where nobody leaves. -/
theorem stay_q {s : Ses} (hs : sesB s = true) {l : List (Int × Int)} (hl : mayM l = true) (hr : ∀ id, roleOf s.mem id ≠ 0 → roleOf l id ≠ 0) (lf : Bool) : (withS s l lf).q = cpQ s.q := by
  rw [withS_q hs, List.filter_eq_self]
  intro t ht
  obtain ⟨y, hy, rfl⟩ := List.mem_map.1 ht
  obtain ⟨a, b, c⟩ := out_false hs hy
  have hn : (cp y).1.toNat < 9 := by show y.1.toNat < 9; omega
  have hc : (((cp y).1.toNat : Nat) : Int) = y.1 := by show ((y.1.toNat : Nat) : Int) = y.1; omega
  rw [abs_role hl hn, hc]
  simp [hr _ c]
end Go.Proofs.Ythcnhibjddomdaa
