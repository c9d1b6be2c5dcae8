/- SessionLeaves: plain laws. Conditions: as each statement says. -/
import Derived.Test.YthcnhibjddomdaaSek
set_option linter.unusedVariables false
set_option linter.unusedSimpArgs false
set_option linter.unusedSectionVars false
set_option maxRecDepth 20000
set_option maxHeartbeats 4000000
namespace Go.Proofs.Ythcnhibjddomdaa
open Go
theorem withS_mem {s : Ses} (hs : sesB s = true) (l : List (Int × Int)) (lf : Bool) : (withS s l lf).mem = l := by rw [withS_eq hs]; rfl
theorem withS_k {s : Ses} (hs : sesB s = true) (l : List (Int × Int)) (lf : Bool) (n : Nat) : (withS s l lf).k n = if absB l 0 n = true then 0 else s.k n := by rw [withS_eq hs]; rfl
theorem withS_w {s : Ses} (hs : sesB s = true) (l : List (Int × Int)) (lf : Bool) (n : Nat) : (withS s l lf).w n = if absB l 0 n = true then (0, 0) else s.w n := by rw [withS_eq hs]; rfl
theorem withS_q {s : Ses} (hs : sesB s = true) (l : List (Int × Int)) (lf : Bool) : (withS s l lf).q = (cpQ s.q).filter fun x => !(decide (0 ≤ x.1) && absB l 0 x.1.toNat) := by
  rw [withS_eq hs]
  have e : (memS s l lf).q = cpQ s.q := cpS_q (ses_parts hs).2.2.1
  show List.filter _ (memS s l lf).q = _
  rw [e]; rfl
theorem withS_all {s : Ses} (hs : sesB s = true) {l : List (Int × Int)} (hl : mayM l = true) (lf : Bool) : allT (withS s l lf).h (withS s l lf).tq = (allT s.h s.tq).filter fun x => decide (x ∈ writersM l) := by
  rw [withS_eq hs, stS_all (s := offAll (memS s l lf) 0) hl (ses_parts hs).2.1]; rfl
theorem abs_role {l : List (Int × Int)} (hl : mayM l = true) {n : Nat} (h : n < 9) : absB l 0 n = decide (roleOf l n = 0) := by
  rw [abs_0 l h]
  cases ht : thereB l n with
  | true => have := (there_iff hl n).1 ht; simp [this]
  | false =>
    have : ¬ roleOf l n ≠ 0 := fun h => by have := (there_iff hl n).2 h; rw [ht] at this; cases this
    have := Decidable.not_not.1 this
    simp [this]
theorem back_mem {l : List (Int × Int)} (hm : mayM l = true) {id : Int} : withM (withM l id 0) id (roleOf l id) = l := by
  have hv := roleOf_val l 0 hm id
  have m1 := withM_may hm (id := id) (r := 0) (.inl rfl)
  have m2 := withM_may m1 (id := id) (r := roleOf l id) hv
  refine may_ext m2 hm fun k h1 h8 => ?_
  rw [withM_role _ _ _ k h1 h8, withM_role _ _ _ k h1 h8]
  split
  · rename_i e; rw [e]
  · rfl
theorem out_false {s : Ses} (hs : sesB s = true) {t : Pc} (ht : t ∈ s.q) : 1 ≤ t.1 ∧ t.1 ≤ 8 ∧ roleOf s.mem t.1 ≠ 0 := by
  obtain ⟨g1, g2, g3, g4, g5, g6, g7, g8, g9⟩ := ses_parts hs
  have := pc_id g3 ht
  exact ⟨this.1, this.2.1, (there_iff g1 _).1 ((outB_iff s t).1 (g9 t ht)).1⟩
/-- What comes of one who leaves: the queue. -/
theorem left_q {s : Ses} (hs : sesB s = true) {j : Nat} (h1 : 1 ≤ j) (h8 : j ≤ 8) (lf : Bool) : (withS s (withM s.mem j 0) lf).q = (cpQ s.q).filter fun t => !decide (t.1 = (j : Int)) := by
  have g1 := (ses_parts hs).1
  have m1 := withM_may g1 (id := (j : Int)) (r := 0) (.inl rfl)
  rw [withS_q hs]
  refine List.filter_congr fun t ht => ?_
  obtain ⟨y, hy, rfl⟩ := List.mem_map.1 ht
  obtain ⟨a, b, c⟩ := out_false hs hy
  have hn : (cp y).1.toNat < 9 := by show y.1.toNat < 9; omega
  rw [abs_role m1 hn]
  have hc : (((cp y).1.toNat : Nat) : Int) = y.1 := by show ((y.1.toNat : Nat) : Int) = y.1; omega
  rw [hc, withM_role _ _ _ y.1 a b]
  have h0 : decide (0 ≤ (cp y).1) = true := by show decide (0 ≤ y.1) = true; simp; omega
  rw [h0, Bool.true_and]
  show (!decide ((if y.1 = (j : Int) then 0 else roleOf s.mem y.1) = 0)) = !decide (y.1 = (j : Int))
  by_cases e : y.1 = (j : Int)
  · simp [e]
  · rw [if_neg e]; simp [e, c]
/-- The queue where nobody leaves. -/
theorem stay_q {s : Ses} (hs : sesB s = true) {l : List (Int × Int)} (hl : mayM l = true) (hr : ∀ id, roleOf s.mem id ≠ 0 → roleOf l id ≠ 0) (lf : Bool) : (withS s l lf).q = cpQ s.q := by
  rw [withS_q hs, List.filter_eq_self]
  intro t ht
  obtain ⟨y, hy, rfl⟩ := List.mem_map.1 ht
  obtain ⟨a, b, c⟩ := out_false hs hy
  have hn : (cp y).1.toNat < 9 := by show y.1.toNat < 9; omega
  have hc : (((cp y).1.toNat : Nat) : Int) = y.1 := by show ((y.1.toNat : Nat) : Int) = y.1; omega
  rw [abs_role hl hn, hc]
  simp [hr _ c]
theorem leaves_pure {s : Ses} (hs : sesB s = true) {j : Nat} (h1 : 1 ≤ j) (h8 : j ≤ 8) (hr : roleOf s.mem j ≠ 0) : ∃ x y : Ses,
    rosS s (leaveM s.mem j) = (x, 0) ∧ rosS x (joinM x.mem j (roleOf s.mem j)) = (y, 0) ∧ okS x ∧ okS y ∧ roleOf x.mem j = 0 ∧ y.mem = s.mem ∧ y.k j = 0 ∧ y.w j = (0, 0) ∧ y.h ≠ j ∧ (∀ z ∈ y.tq, z ≠ j) ∧
      y.q = cpQ (s.q.filter fun t => !decide (t.1 = (j : Int))) ∧ ∀ n : Nat, 1 ≤ n → n ≤ 8 → n ≠ j → y.k n = s.k n ∧ y.w n = s.w n := by
  obtain ⟨g1, g2, g3, g4, g5, g6, g7, g8, g9⟩ := ses_parts hs
  have hv := roleOf_val s.mem 0 g1 j
  have m1 := withM_may g1 (id := (j : Int)) (r := 0) (.inl rfl)
  have ro : ∀ k : Int, 1 ≤ k → k ≤ 8 → roleOf (withM s.mem j 0) k = if k = (j : Int) then 0 else roleOf s.mem k := fun k a b => withM_role _ _ _ k a b
  have hx := with_ok hs m1 false
  have xm := withS_mem hs (withM s.mem j 0) false
  have xq := left_q hs h1 h8 false
  have xk := withS_k hs (withM s.mem j 0) false
  have xw := withS_w hs (withM s.mem j 0) false
  have xa := withS_all hs m1 false
  have e1 : rosS s (leaveM s.mem j) = (withS s (withM s.mem j 0) false, 0) := by
    unfold rosS leaveM
    rw [if_pos hs, if_pos g1, if_pos ((there_iff g1 j).2 hr)]
    exact if_pos rfl
  generalize withS s (withM s.mem j 0) false = x at *
  have jm : joinM x.mem j (roleOf s.mem j) = (s.mem, 0) := by
    rw [xm]
    unfold joinM
    rw [if_pos ⟨m1, by simp [idB]; omega, by simp [roleB]; omega⟩, ro j (by omega) (by omega), if_pos rfl, if_pos rfl, back_mem g1]
  have hy := with_ok hx g1 false
  have ym := withS_mem hx s.mem false
  have yq := stay_q hx g1 (fun id h => by
    rw [xm] at h
    have hid : 1 ≤ id ∧ id ≤ 8 := there_id ((there_iff m1 id).2 h)
    rw [ro id hid.1 hid.2] at h
    intro e
    split at h
    · exact h rfl
    · exact h e) false
  have yk := withS_k hx s.mem false
  have yw := withS_w hx s.mem false
  have ya := withS_all hx g1 false
  have e2 : rosS x (joinM x.mem j (roleOf s.mem j)) = (withS x s.mem false, 0) := by
    unfold rosS
    rw [if_pos hx, jm]
    exact if_pos rfl
  generalize withS x s.mem false = y at *
  have jx : absB (withM s.mem j 0) 0 j = true := by rw [abs_role m1 (by omega), ro j (by omega) (by omega)]; simp
  have jy : absB s.mem 0 j = false := by rw [abs_role g1 (by omega)]; simp [hr]
  have hn : ∀ z ∈ allT y.h y.tq, z ≠ j := by
    intro z hz e
    subst e
    rw [ya, List.mem_filter, xa, List.mem_filter] at hz
    have h := hz.1.2
    rw [decide_eq_true_eq, mem_writers m1, ro j (by omega) (by omega), if_pos rfl] at h
    omega
  have yT := (ses_parts hy).2.1
  have y0 := ((mayT_iff y.h y.tq).1 yT).2
  refine ⟨x, y, e1, e2, okS_may hx, okS_may hy, by rw [xm, ro j (by omega) (by omega), if_pos rfl], ym, ?_, ?_, ?_, ?_, ?_, ?_⟩
  · rw [yk, jy, xk, jx]; simp
  · rw [yw, jy, xw, jx]; simp
  · intro e
    have h0 : y.h ≠ 0 := by omega
    exact hn y.h (by unfold allT; rw [if_neg h0]; simp) e
  · intro z hz
    by_cases h0 : y.h = 0
    · rw [y0 h0] at hz; simp at hz
    · exact hn z (by unfold allT; rw [if_neg h0]; simp [hz])
  · rw [yq, xq]
    have : ∀ (l : List Pc) (p : Pc → Bool), (∀ t, p (cp t) = p t) → cpQ ((cpQ l).filter p) = cpQ (l.filter p) := by
      intro l p hp
      rw [cpQ, cpQ, cpQ, List.filter_map, List.map_map]
      have e1 : (p ∘ cp) = p := funext hp
      have e2 : (cp ∘ cp) = cp := funext fun _ => rfl
      rw [e1, e2]
    exact this _ _ fun _ => rfl
  · intro n a b c
    have nj : ¬ (n : Int) = j := by omega
    have ax : absB (withM s.mem j 0) 0 n = absB s.mem 0 n := by rw [abs_role m1 (by omega), abs_role g1 (by omega), ro n (by omega) (by omega), if_neg nj]
    rw [yk, yw, xk, xw, ax]
    have t := (tkB_iff s n).1 (g8 n (by omega))
    cases ha : absB s.mem 0 n with
    | false => simp
    | true =>
      rw [abs_0 s.mem (by omega)] at ha
      have ht : thereB s.mem n = false := by simpa using ha
      rw [ht] at t
      simp only [if_true]
      refine ⟨by rcases t.2.2 with h | h; cases h; exact h.1.symm, ?_⟩
      rcases t.2.2 with h | h
      · cases h
      · exact Prod.ext h.2.1.symm h.2.2.symm
end Go.Proofs.Ythcnhibjddomdaa
