/- Rosters: plain laws. Conditions: as each statement says. -/
import Derived.Test.YthcnhibjddomdaaGreatRos1
set_option linter.unusedVariables false
set_option linter.unusedSimpArgs false
set_option linter.unusedSectionVars false
namespace Go.Proofs.YthcnhibjddomdaaGreat
open Go
/-- A member's role; 0: it is not there. -/
def roleOf : List (Int × Int) → Int → Int
  | [], _ => 0
  | m :: t, id => if m.1 = id then m.2 else roleOf t id
/-- How many stand ahead of a number. -/
def cntLt (l : List (Int × Int)) (id : Int) : Nat := (l.filter fun m => decide (m.1 < id)).length
theorem okM_iff (last : Int) (m : Int × Int) : okM last m = true ↔ last < m.1 ∧ m.1 ≤ 8 ∧ (m.2 = 1 ∨ m.2 = 2) := by
  simp [okM, roleB]; constructor <;> (intro h; simp_all)
theorem mayGo_mem : ∀ (l : List (Int × Int)) (last : Int), mayGo last l = true → ∀ m ∈ l, last < m.1 ∧ m.1 ≤ 8 ∧ (m.2 = 1 ∨ m.2 = 2)
  | [], _, _, m, hm => by simp at hm
  | x :: t, last, h, m, hm => by
    rw [mayGo, Bool.and_eq_true, okM_iff] at h
    rcases List.mem_cons.1 hm with rfl | hm
    · exact h.1
    · have := mayGo_mem t x.1 h.2 m hm
      exact ⟨by omega, this.2⟩
theorem mayGo_len : ∀ (l : List (Int × Int)) (last : Int), mayGo last l = true → 0 ≤ last → (l.length : Int) ≤ 8 - last ∨ l = []
  | [], _, _, _ => .inr rfl
  | x :: t, last, h, h0 => by
    rw [mayGo, Bool.and_eq_true, okM_iff] at h
    rcases mayGo_len t x.1 h.2 (by omega) with h1 | rfl
    · left; simp only [List.length_cons]; omega
    · left; simp only [List.length_cons, List.length_nil]; omega
theorem mayM_len {l : List (Int × Int)} (h : mayM l = true) : l.length ≤ 8 := by
  rcases mayGo_len l 0 h (by omega) with h1 | rfl
  · omega
  · simp
theorem roleOf_low : ∀ (l : List (Int × Int)) (last : Int), mayGo last l = true → ∀ id, id ≤ last → roleOf l id = 0
  | [], _, _, _, _ => rfl
  | x :: t, last, h, id, hid => by
    rw [mayGo, Bool.and_eq_true, okM_iff] at h
    rw [roleOf, if_neg (by omega)]
    exact roleOf_low t x.1 h.2 id (by omega)
theorem roleOf_hi : ∀ (l : List (Int × Int)) (last : Int), mayGo last l = true → ∀ id, 8 < id → roleOf l id = 0
  | [], _, _, _, _ => rfl
  | x :: t, last, h, id, hid => by
    rw [mayGo, Bool.and_eq_true, okM_iff] at h
    rw [roleOf, if_neg (by omega)]
    exact roleOf_hi t x.1 h.2 id hid
/-- Where a member stands. -/
theorem cnt_at : ∀ (l : List (Int × Int)) (last : Int), mayGo last l = true → ∀ (id : Int) (t : Nat) (h : t < l.length), (l[t].1 < id ↔ t < cntLt l id)
  | [], _, _, _, _, h => by simp at h
  | m :: r, last, h, id, t, ht => by
    have hall := mayGo_mem r m.1 (by rw [mayGo, Bool.and_eq_true] at h; exact h.2)
    have hr : mayGo m.1 r = true := by rw [mayGo, Bool.and_eq_true] at h; exact h.2
    by_cases e : m.1 < id
    · have hc : cntLt (m :: r) id = cntLt r id + 1 := by simp [cntLt, e]
      cases t with
      | zero => simp [e, hc]
      | succ t =>
        have := cnt_at r m.1 hr id t (by simpa using ht)
        simp only [List.getElem_cons_succ]
        rw [this, hc]; omega
    · have hc : cntLt (m :: r) id = 0 := by
        simp only [cntLt, List.length_eq_zero_iff, List.filter_eq_nil_iff]
        intro x hx
        rcases List.mem_cons.1 hx with rfl | hx
        · simpa using e
        · have := hall x hx; simp; omega
      rw [hc]
      cases t with
      | zero => simpa using e
      | succ t =>
        have := hall (r[t]'(by simpa using ht)) (List.getElem_mem _)
        simp only [List.getElem_cons_succ]
        omega
theorem cnt_le (l : List (Int × Int)) (id : Int) : cntLt l id ≤ l.length := List.length_filter_le _ _
/-- A member's place. -/
theorem cnt_role : ∀ (l : List (Int × Int)) (last : Int), mayGo last l = true → ∀ (id : Int), (roleOf l id ≠ 0 ↔ ∃ h : cntLt l id < l.length, l[cntLt l id].1 = id) ∧ ∀ h : cntLt l id < l.length, l[cntLt l id].1 = id → l[cntLt l id] = (id, roleOf l id)
  | [], _, _, _ => by simp [roleOf]
  | m :: r, last, h, id => by
    rw [mayGo, Bool.and_eq_true, okM_iff] at h
    obtain ⟨⟨_, h8, h12⟩, hr⟩ := h
    obtain ⟨ih1, ih2⟩ := cnt_role r m.1 hr id
    have hall := mayGo_mem r m.1 hr
    by_cases e : m.1 < id
    · have hc : cntLt (m :: r) id = cntLt r id + 1 := by simp [cntLt, e]
      have hro : roleOf (m :: r) id = roleOf r id := by rw [roleOf, if_neg (by omega)]
      simp only [hc, hro, List.length_cons, List.getElem_cons_succ]
      refine ⟨?_, fun h1 h2 => ih2 (by omega) h2⟩
      rw [ih1]
      constructor
      · rintro ⟨h1, h2⟩; exact ⟨by omega, h2⟩
      · rintro ⟨h1, h2⟩; exact ⟨by omega, h2⟩
    · have hc : cntLt (m :: r) id = 0 := by
        simp only [cntLt, List.length_eq_zero_iff, List.filter_eq_nil_iff]
        intro x hx
        rcases List.mem_cons.1 hx with rfl | hx
        · simpa using e
        · have := hall x hx; simp; omega
      simp only [hc, List.length_cons, List.getElem_cons_zero]
      by_cases e2 : m.1 = id
      · have hro : roleOf (m :: r) id = m.2 := by rw [roleOf, if_pos e2]
        rw [hro]
        exact ⟨⟨fun _ => ⟨by omega, e2⟩, fun _ => by omega⟩, fun _ _ => Prod.ext e2 rfl⟩
      · have hro : roleOf (m :: r) id = 0 := by rw [roleOf, if_neg e2]; exact roleOf_low r m.1 hr id (by omega)
        rw [hro]
        exact ⟨⟨fun h => absurd rfl h, fun ⟨_, h⟩ => absurd h e2⟩, fun _ h => absurd h e2⟩
end Go.Proofs.YthcnhibjddomdaaGreat
