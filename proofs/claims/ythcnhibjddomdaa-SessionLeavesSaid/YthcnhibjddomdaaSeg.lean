/- Sessions: plain laws: May stays. Conditions: as each statement says. -/
import Derived.Test.YthcnhibjddomdaaSef
set_option linter.unusedVariables false
set_option linter.unusedSimpArgs false
set_option linter.unusedSectionVars false
namespace Go.Proofs.Ythcnhibjddomdaa
open Go
theorem abs_0 (l : List (Int × Int)) {n : Nat} (h : n < 9) : absB l 0 n = !thereB l n := by simp [absB, h]
theorem withS_eq {s : Ses} (hs : sesB s = true) (l : List (Int × Int)) (lf : Bool) : withS s l lf = stS (offAll (memS s l lf) 0) := by
  have hq := (ses_parts hs).2.2.1
  have e : (memS s l lf).q = cpQ s.q := cpS_q hq
  unfold withS
  rw [offs_eq 9 0 (memS s l lf) rfl (by rw [e, may_cp]; exact hq) (by rw [e]; exact cp_cp s.q) rfl]
theorem pc_id {q : List Pc} (h : mayQ 0 q = true) {t : Pc} (ht : t ∈ q) : 1 ≤ t.1 ∧ t.1 ≤ 8 ∧ 1 ≤ t.2.1 := by
  have := ((may0_iff q).1 h).1 t ht
  simp only [pcB, pieceB, Bool.and_eq_true, decide_eq_true_eq] at this
  omega
theorem tkB_iff (s : Ses) (j : Nat) : tkB s j = true ↔ 0 ≤ s.k j ∧ s.k j ≤ 1073741824 ∧ (thereB s.mem j = true ∨ (s.k j = 0 ∧ (s.w j).1 = 0 ∧ (s.w j).2 = 0)) := by
  simp only [tkB, Bool.and_eq_true, Bool.or_eq_true, Bool.not_eq_true', decide_eq_false_iff_not, decide_eq_true_eq]
  constructor
  · rintro ⟨⟨a, b⟩, c⟩; exact ⟨by omega, by omega, c⟩
  · rintro ⟨a, b, c⟩; exact ⟨⟨by omega, by omega⟩, c⟩
theorem outB_iff (s : Ses) (t : Pc) : outB s t = false ↔ thereB s.mem t.1 = true ∧ t.2.1 ≤ s.k t.1.toNat := by
  simp only [outB, Bool.or_eq_false_iff, Bool.not_eq_false', decide_eq_false_iff_not, Int.not_lt]
theorem with_ok {s : Ses} (hs : sesB s = true) {l : List (Int × Int)} (hl : mayM l = true) (lf : Bool) : sesB (withS s l lf) = true := by
  obtain ⟨h1, h2, h3, h4, h5, h6, h7, h8, h9⟩ := ses_parts hs
  rw [withS_eq hs]
  have e : (memS s l lf).q = cpQ s.q := cpS_q h3
  have hq : mayQ 0 (offAll (memS s l lf) 0).q = true := may_filter (by rw [e, may_cp]; exact h3) _
  refine stS_ok (s := offAll (memS s l lf) 0) hl h2 hq ?_ ?_ ?_ ?_
  · refine mayW_mk fun j hj => ?_
    have hw : (offAll (memS s l lf) 0).w j = if absB l 0 j = true then (0, 0) else s.w j := rfl
    unfold okW
    rw [hw]
    split
    · simp [winB]
    · exact mayW_at h4 j hj
  · rw [sizB_iff] at h5 ⊢; exact h5
  · intro j hj
    have hw : (offAll (memS s l lf) 0).w j = if absB l 0 j = true then (0, 0) else s.w j := rfl
    have hk : (offAll (memS s l lf) 0).k j = if absB l 0 j = true then 0 else s.k j := rfl
    have hm : (offAll (memS s l lf) 0).mem = l := rfl
    have := (tkB_iff s j).1 (h8 j hj)
    rw [tkB_iff, hw, hk, hm, abs_0 l hj]
    cases ht : thereB l j with
    | true => simp; omega
    | false => simp
  · intro t ht
    have hm : (offAll (memS s l lf) 0).mem = l := rfl
    have hid := pc_id hq ht
    obtain ⟨ha, hb⟩ := List.mem_filter.1 ht
    rw [e] at ha
    obtain ⟨y, hy, rfl⟩ := List.mem_map.1 ha
    have hid' : 1 ≤ y.1 ∧ y.1 ≤ 8 ∧ 1 ≤ y.2.1 := hid
    have hb' : (!(decide (0 ≤ y.1) && absB l 0 y.1.toNat)) = true := hb
    have hn : y.1.toNat < 9 := by omega
    have hcast : ((y.1.toNat : Nat) : Int) = y.1 := by omega
    have h0 : 0 ≤ y.1 := by omega
    rw [abs_0 l hn, hcast] at hb'
    simp only [h0, decide_true, Bool.true_and, Bool.not_not] at hb'
    have hk : (offAll (memS s l lf) 0).k y.1.toNat = if absB l 0 y.1.toNat = true then 0 else s.k y.1.toNat := rfl
    rw [outB_iff, hm]
    refine ⟨hb', ?_⟩
    show y.2.1 ≤ (offAll (memS s l lf) 0).k y.1.toNat
    rw [hk, abs_0 l hn, hcast, hb']
    simp only [Bool.not_true, Bool.false_eq_true, if_false]
    exact ((outB_iff s y).1 (h9 y hy)).2
end Go.Proofs.Ythcnhibjddomdaa
