/- Rosters: plain laws. Conditions: as each statement says. -/
import Derived.Test.YthcnhibjddomdaaRos1
set_option linter.unusedVariables false
set_option linter.unusedSimpArgs false
set_option linter.unusedSectionVars false
namespace Go.Proofs.Ythcnhibjddomdaa
open Go
/-- A member's role; 0: it is not there. -/
def roleOf : List (Int × Int) → Int → Int
  | [], _ => 0
  | m :: t, id => if m.1 = id then m.2 else roleOf t id
/-- How many stand ahead of a number. -/
def cntLt (l : List (Int × Int)) (id : Int) : Nat := (l.filter fun m => decide (m.1 < id)).length
theorem okM_iff (last : Int) (m : Int × Int) : okM last m = true ↔ last < m.1 ∧ m.1 ≤ 8 ∧ (m.2 = 1 ∨ m.2 = 2) := by
  simp [okM, roleB]; constructor <;> (intro h; simp_all)
theorem mayGo_mem : ∀ (l : List (Int × Int)) (last : Int), mayGo last l = true → ∀ m ∈ l, last < m.1 ∧ m.1 ≤ 8 ∧ (m.2 = 1 ∨ m.2 = 2)
  | [], _, _, m, hm => by simp at hm
  | x :: t, last, h, m, hm => by
    rw [mayGo, Bool.and_eq_true, okM_iff] at h
    rcases List.mem_cons.1 hm with rfl | hm
    · exact h.1
    · have := mayGo_mem t x.1 h.2 m hm
      exact ⟨by omega, this.2⟩
theorem mayGo_len : ∀ (l : List (Int × Int)) (last : Int), mayGo last l = true → 0 ≤ last → (l.length : Int) ≤ 8 - last ∨ l = []
  | [], _, _, _ => .inr rfl
  | x :: t, last, h, h0 => by
    rw [mayGo, Bool.and_eq_true, okM_iff] at h
    rcases mayGo_len t x.1 h.2 (by omega) with h1 | rfl
    · left; simp only [List.length_cons]; omega
    · left; simp only [List.length_cons, List.length_nil]; omega
theorem mayM_len {l : List (Int × Int)} (h : mayM l = true) : l.length ≤ 8 := by
  rcases mayGo_len l 0 h (by omega) with h1 | rfl
  · omega
  · simp
theorem roleOf_low : ∀ (l : List (Int × Int)) (last : Int), mayGo last l = true → ∀ id, id ≤ last → roleOf l id = 0
  | [], _, _, _, _ => rfl
  | x :: t, last, h, id, hid => by
    rw [mayGo, Bool.and_eq_true, okM_iff] at h
    rw [roleOf, if_neg (by omega)]
    exact roleOf_low t x.1 h.2 id (by omega)
theorem roleOf_hi : ∀ (l : List (Int × Int)) (last : Int), mayGo last l = true → ∀ id, 8 < id → roleOf l id = 0
  | [], _, _, _, _ => rfl
  | x :: t, last, h, id, hid => by
    rw [mayGo, Bool.and_eq_true, okM_iff] at h
    rw [roleOf, if_neg (by omega)]
    exact roleOf_hi t x.1 h.2 id hid
theorem roleOf_val : ∀ (l : List (Int × Int)) (last : Int), mayGo last l = true → ∀ id, roleOf l id = 0 ∨ roleOf l id = 1 ∨ roleOf l id = 2
  | [], _, _, _ => .inl rfl
  | x :: t, last, h, id => by
    rw [mayGo, Bool.and_eq_true, okM_iff] at h
    rw [roleOf]
    split
    · exact .inr h.1.2.2
    · exact roleOf_val t x.1 h.2 id
/-- The roster of roles. -/
def ros (f : Int → Int) : Nat → Int → List (Int × Int)
  | 0, _ => []
  | n + 1, k => if f k ≠ 0 then (k, f k) :: ros f n (k + 1) else ros f n (k + 1)
theorem ros_congr {f g : Int → Int} : ∀ (n : Nat) (k : Int), (∀ j, k ≤ j → f j = g j) → ros f n k = ros g n k
  | 0, _, _ => rfl
  | n + 1, k, h => by rw [ros, ros, h k (Int.le_refl _), ros_congr n (k + 1) fun j hj => h j (by omega)]
theorem ros_zero {f : Int → Int} : ∀ (n : Nat) (k : Int), (∀ j, k ≤ j → f j = 0) → ros f n k = []
  | 0, _, _ => rfl
  | n + 1, k, h => by rw [ros, if_neg (by simp [h k (Int.le_refl _)]), ros_zero n (k + 1) fun j hj => h j (by omega)]
theorem may_ros : ∀ (n : Nat) (k : Int) (l : List (Int × Int)), k + n = 9 → mayGo (k - 1) l = true → l = ros (roleOf l) n k
  | 0, k, l, hk, h => by
    cases l with
    | nil => rfl
    | cons m t =>
      rw [mayGo, Bool.and_eq_true, okM_iff] at h
      omega
  | n + 1, k, l, hk, h => by
    cases l with
    | nil => exact (ros_zero (f := roleOf []) _ _ fun _ _ => rfl).symm
    | cons m t =>
      rw [mayGo, Bool.and_eq_true, okM_iff] at h
      obtain ⟨⟨h1, h2, h3⟩, h4⟩ := h
      by_cases e : m.1 = k
      · have hr : roleOf (m :: t) k = m.2 := by rw [roleOf, if_pos e]
        rw [ros, hr, if_pos (by omega)]
        have ih := may_ros n (k + 1) t (by omega) (by rw [show k + 1 - 1 = m.1 by omega]; exact h4)
        rw [ros_congr (g := roleOf t) n (k + 1) fun j hj => by rw [roleOf, if_neg (by omega)], ← ih]
        congr 1
        exact Prod.ext e rfl
      · have hr : roleOf (m :: t) k = 0 := by rw [roleOf, if_neg e]; exact roleOf_low t m.1 h4 k (by omega)
        rw [ros, hr, if_neg (by simp)]
        exact may_ros n (k + 1) (m :: t) (by omega) (by rw [mayGo, Bool.and_eq_true, okM_iff]; exact ⟨⟨by omega, h2, h3⟩, h4⟩)
theorem mayM_ros {l : List (Int × Int)} (h : mayM l = true) : l = ros (roleOf l) 8 1 := may_ros 8 1 l (by omega) h
theorem ros_may {f : Int → Int} (hf : ∀ k, f k = 0 ∨ f k = 1 ∨ f k = 2) : ∀ (n : Nat) (k last : Int), k + n = 9 → last < k → mayGo last (ros f n k) = true
  | 0, _, _, _, _ => rfl
  | n + 1, k, last, hk, hl => by
    rw [ros]
    split
    · rw [mayGo, Bool.and_eq_true, okM_iff]
      rename_i h0
      refine ⟨⟨hl, by omega, ?_⟩, ros_may hf n (k + 1) k (by omega) (by omega)⟩
      rcases hf k with h | h | h
      · exact absurd h h0
      · exact .inl h
      · exact .inr h
    · exact ros_may hf n (k + 1) last (by omega) (by omega)
theorem ros_role {f : Int → Int} : ∀ (n : Nat) (k id : Int), k + n = 9 → k ≤ id → id ≤ 8 → roleOf (ros f n k) id = f id
  | 0, k, id, hk, h1, h2 => by omega
  | n + 1, k, id, hk, h1, h2 => by
    rw [ros]
    split
    · rename_i h0
      by_cases e : k = id
      · subst e; rw [roleOf, if_pos rfl]
      · rw [roleOf, if_neg e, ros_role n (k + 1) id (by omega) (by omega) h2]
    · rename_i h0
      by_cases e : k = id
      · subst e
        have h0 : f k = 0 := by simpa using h0
        rw [h0]
        have key : ∀ (n : Nat) (j : Int), k < j → roleOf (ros f n j) k = 0 := by
          intro n
          induction n with
          | zero => intro j _; rfl
          | succ n ih =>
            intro j hj
            rw [ros]
            split
            · rw [roleOf, if_neg (by simp only; omega), ih (j + 1) (by omega)]
            · exact ih (j + 1) (by omega)
        exact key n (k + 1) (by omega)
      · exact ros_role n (k + 1) id (by omega) (by omega) h2
/-- Two rosters with the same roles are one. -/
theorem may_ext {l l' : List (Int × Int)} (h : mayM l = true) (h' : mayM l' = true) (he : ∀ id, 1 ≤ id → id ≤ 8 → roleOf l id = roleOf l' id) : l = l' := by
  rw [mayM_ros h, mayM_ros h']
  refine ros_congr 8 1 fun j hj => ?_
  by_cases h8 : j ≤ 8
  · exact he j hj h8
  · rw [roleOf_hi l 0 h j (by omega), roleOf_hi l' 0 h' j (by omega)]
/-- Where a member stands. -/
theorem cnt_at : ∀ (l : List (Int × Int)) (last : Int), mayGo last l = true → ∀ (id : Int) (t : Nat) (h : t < l.length), (l[t].1 < id ↔ t < cntLt l id)
  | [], _, _, _, _, h => by simp at h
  | m :: r, last, h, id, t, ht => by
    have hall := mayGo_mem r m.1 (by rw [mayGo, Bool.and_eq_true] at h; exact h.2)
    have hr : mayGo m.1 r = true := by rw [mayGo, Bool.and_eq_true] at h; exact h.2
    by_cases e : m.1 < id
    · have hc : cntLt (m :: r) id = cntLt r id + 1 := by simp [cntLt, e]
      cases t with
      | zero => simp [e, hc]
      | succ t =>
        have := cnt_at r m.1 hr id t (by simpa using ht)
        simp only [List.getElem_cons_succ]
        rw [this, hc]; omega
    · have hc : cntLt (m :: r) id = 0 := by
        simp only [cntLt, List.length_eq_zero_iff, List.filter_eq_nil_iff]
        intro x hx
        rcases List.mem_cons.1 hx with rfl | hx
        · simpa using e
        · have := hall x hx; simp; omega
      rw [hc]
      cases t with
      | zero => simpa using e
      | succ t =>
        have := hall (r[t]'(by simpa using ht)) (List.getElem_mem _)
        simp only [List.getElem_cons_succ]
        omega
theorem cnt_le (l : List (Int × Int)) (id : Int) : cntLt l id ≤ l.length := List.length_filter_le _ _
/-- A member's place. -/
theorem cnt_role : ∀ (l : List (Int × Int)) (last : Int), mayGo last l = true → ∀ (id : Int), (roleOf l id ≠ 0 ↔ ∃ h : cntLt l id < l.length, l[cntLt l id].1 = id) ∧ ∀ h : cntLt l id < l.length, l[cntLt l id].1 = id → l[cntLt l id] = (id, roleOf l id)
  | [], _, _, _ => by simp [roleOf]
  | m :: r, last, h, id => by
    rw [mayGo, Bool.and_eq_true, okM_iff] at h
    obtain ⟨⟨_, h8, h12⟩, hr⟩ := h
    obtain ⟨ih1, ih2⟩ := cnt_role r m.1 hr id
    have hall := mayGo_mem r m.1 hr
    by_cases e : m.1 < id
    · have hc : cntLt (m :: r) id = cntLt r id + 1 := by simp [cntLt, e]
      have hro : roleOf (m :: r) id = roleOf r id := by rw [roleOf, if_neg (by omega)]
      simp only [hc, hro, List.length_cons, List.getElem_cons_succ]
      refine ⟨?_, fun h1 h2 => ih2 (by omega) h2⟩
      rw [ih1]
      constructor
      · rintro ⟨h1, h2⟩; exact ⟨by omega, h2⟩
      · rintro ⟨h1, h2⟩; exact ⟨by omega, h2⟩
    · have hc : cntLt (m :: r) id = 0 := by
        simp only [cntLt, List.length_eq_zero_iff, List.filter_eq_nil_iff]
        intro x hx
        rcases List.mem_cons.1 hx with rfl | hx
        · simpa using e
        · have := hall x hx; simp; omega
      simp only [hc, List.length_cons, List.getElem_cons_zero]
      by_cases e2 : m.1 = id
      · have hro : roleOf (m :: r) id = m.2 := by rw [roleOf, if_pos e2]
        rw [hro]
        exact ⟨⟨fun _ => ⟨by omega, e2⟩, fun _ => by omega⟩, fun _ _ => Prod.ext e2 rfl⟩
      · have hro : roleOf (m :: r) id = 0 := by rw [roleOf, if_neg e2]; exact roleOf_low r m.1 hr id (by omega)
        rw [hro]
        exact ⟨⟨fun h => absurd rfl h, fun ⟨_, h⟩ => absurd h e2⟩, fun _ h => absurd h e2⟩
/-- The roles with another one. -/
def setR (f : Int → Int) (id r : Int) (k : Int) : Int := if k = id then r else f k
def withM (l : List (Int × Int)) (id r : Int) : List (Int × Int) := ros (setR (roleOf l) id r) 8 1
theorem setR_val {l : List (Int × Int)} (h : mayM l = true) {id r : Int} (hr : r = 0 ∨ r = 1 ∨ r = 2) (k : Int) : setR (roleOf l) id r k = 0 ∨ setR (roleOf l) id r k = 1 ∨ setR (roleOf l) id r k = 2 := by
  unfold setR; split
  · exact hr
  · exact roleOf_val l 0 h k
theorem withM_may {l : List (Int × Int)} (h : mayM l = true) {id r : Int} (hr : r = 0 ∨ r = 1 ∨ r = 2) : mayM (withM l id r) = true := ros_may (setR_val h hr) 8 1 0 (by omega) (by omega)
theorem withM_role (l : List (Int × Int)) (id r k : Int) (h1 : 1 ≤ k) (h8 : k ≤ 8) : roleOf (withM l id r) k = if k = id then r else roleOf l k := ros_role 8 1 k (by omega) h1 h8
/-- Somebody comes. -/
theorem ins_go : ∀ (l : List (Int × Int)) (last : Int), mayGo last l = true → ∀ (id r : Int), last < id → id ≤ 8 → (r = 1 ∨ r = 2) → roleOf l id = 0 →
    mayGo last (l.take (cntLt l id) ++ [(id, r)] ++ l.drop (cntLt l id)) = true ∧ ∀ k, roleOf (l.take (cntLt l id) ++ [(id, r)] ++ l.drop (cntLt l id)) k = if k = id then r else roleOf l k
  | [], last, _, id, r, h1, h8, hr, _ => by
    refine ⟨by simp [cntLt, mayGo]; exact (okM_iff _ _).2 ⟨h1, h8, hr⟩, fun k => ?_⟩
    simp only [cntLt, List.filter_nil, List.length_nil, List.take_nil, List.nil_append, List.drop_nil, List.append_nil, roleOf]
    by_cases e : id = k
    · simp [e]
    · rw [if_neg e, if_neg (fun h => e h.symm)]
  | m :: t, last, h, id, r, h1, h8, hr, h0 => by
    rw [mayGo, Bool.and_eq_true] at h
    have hm := (okM_iff _ _).1 h.1
    have hall := mayGo_mem t m.1 h.2
    have hne : ¬ m.1 = id := fun e => by rw [roleOf, if_pos e] at h0; omega
    rw [roleOf, if_neg hne] at h0
    by_cases e : m.1 < id
    · have hc : cntLt (m :: t) id = cntLt t id + 1 := by simp [cntLt, e]
      obtain ⟨i1, i2⟩ := ins_go t m.1 h.2 id r e h8 hr h0
      rw [hc]
      simp only [List.take_succ_cons, List.drop_succ_cons, List.cons_append]
      refine ⟨by rw [mayGo, Bool.and_eq_true]; exact ⟨h.1, i1⟩, fun k => ?_⟩
      rw [roleOf, i2, roleOf]
      by_cases e1 : m.1 = k
      · rw [if_pos e1, if_neg (by omega), if_pos e1]
      · rw [if_neg e1, if_neg e1]
    · have hc : cntLt (m :: t) id = 0 := by
        simp only [cntLt, List.length_eq_zero_iff, List.filter_eq_nil_iff]
        intro x hx
        rcases List.mem_cons.1 hx with rfl | hx
        · simpa using e
        · have := hall x hx; simp; omega
      rw [hc]
      simp only [List.take_zero, List.drop_zero, List.nil_append, List.cons_append]
      refine ⟨?_, fun k => ?_⟩
      · rw [mayGo, mayGo, Bool.and_eq_true, Bool.and_eq_true]
        exact ⟨(okM_iff _ _).2 ⟨h1, h8, hr⟩, (okM_iff _ _).2 ⟨by simp only; omega, hm.2⟩, h.2⟩
      · rw [roleOf]
        by_cases e1 : id = k
        · simp [e1]
        · rw [if_neg e1, if_neg (fun h => e1 h.symm)]
theorem join_with {l : List (Int × Int)} (h : mayM l = true) {id r : Int} (h1 : 1 ≤ id) (h8 : id ≤ 8) (hr : r = 1 ∨ r = 2) (h0 : roleOf l id = 0) : l.take (cntLt l id) ++ [(id, r)] ++ l.drop (cntLt l id) = withM l id r := by
  obtain ⟨i1, i2⟩ := ins_go l 0 h id r (by omega) h8 hr h0
  exact may_ext i1 (withM_may h (.inr hr)) fun k hk1 hk8 => by rw [i2, withM_role l id r k hk1 hk8]
/-- Somebody goes. -/
theorem del_go : ∀ (l : List (Int × Int)) (last : Int), mayGo last l = true → ∀ (id r : Int), roleOf l id = r → r ≠ 0 →
    mayGo last (l.filter fun m => !decide (m = (id, r))) = true ∧ ∀ k, roleOf (l.filter fun m => !decide (m = (id, r))) k = if k = id then 0 else roleOf l k
  | [], _, _, id, r, h, h0 => absurd h.symm h0
  | m :: t, last, h, id, r, hr, h0 => by
    rw [mayGo, Bool.and_eq_true] at h
    have hm := (okM_iff _ _).1 h.1
    have weak : ∀ (l : List (Int × Int)) (a b : Int), a ≤ b → mayGo b l = true → mayGo a l = true := by
      intro l a b hab hl
      cases l with
      | nil => rfl
      | cons x l =>
        rw [mayGo, Bool.and_eq_true, okM_iff] at hl ⊢
        exact ⟨⟨by omega, hl.1.2⟩, hl.2⟩
    by_cases e : m.1 = id
    · have hmr : m = (id, r) := by rw [roleOf, if_pos e] at hr; exact Prod.ext e hr
      have hall := mayGo_mem t m.1 h.2
      have hno : (t.filter fun m => !decide (m = (id, r))) = t := List.filter_eq_self.2 fun x hx => by
        have := hall x hx
        simp only [Bool.not_eq_true', decide_eq_false_iff_not]
        intro e2; rw [e2] at this; simp only at this; omega
      have hf : ((m :: t).filter fun m => !decide (m = (id, r))) = t := by rw [List.filter_cons, if_neg (by simp [hmr]), hno]
      rw [hf]
      refine ⟨weak t last m.1 (by omega) h.2, fun k => ?_⟩
      rw [roleOf]
      by_cases ek : k = id
      · rw [if_pos ek]; exact roleOf_low t m.1 h.2 k (by omega)
      · rw [if_neg ek, if_neg (by omega)]
    · have hne : ¬ m = (id, r) := fun h => e (by rw [h])
      rw [roleOf, if_neg e] at hr
      obtain ⟨i1, i2⟩ := del_go t m.1 h.2 id r hr h0
      have hf : ((m :: t).filter fun m => !decide (m = (id, r))) = m :: t.filter fun m => !decide (m = (id, r)) := by rw [List.filter_cons, if_pos (by simp [hne])]
      rw [hf]
      refine ⟨by rw [mayGo, Bool.and_eq_true]; exact ⟨h.1, i1⟩, fun k => ?_⟩
      rw [roleOf, roleOf, i2]
      by_cases ek : k = id
      · rw [if_pos ek, if_neg (by omega)]; simp [ek]
      · simp [ek]
theorem leave_with {l : List (Int × Int)} (h : mayM l = true) {id : Int} (h0 : roleOf l id ≠ 0) : (l.filter fun m => !decide (m = (id, roleOf l id))) = withM l id 0 := by
  obtain ⟨i1, i2⟩ := del_go l 0 h id _ rfl h0
  exact may_ext i1 (withM_may h (.inl rfl)) fun k hk1 hk8 => by rw [i2, withM_role l id 0 k hk1 hk8]
/-- Somebody is changed. -/
theorem set_go : ∀ (l : List (Int × Int)) (last : Int), mayGo last l = true → ∀ (id r : Int), (r = 1 ∨ r = 2) → roleOf l id ≠ 0 →
    mayGo last (l.set (cntLt l id) (id, r)) = true ∧ ∀ k, roleOf (l.set (cntLt l id) (id, r)) k = if k = id then r else roleOf l k
  | [], _, _, id, r, _, h0 => absurd rfl h0
  | m :: t, last, h, id, r, hr, h0 => by
    rw [mayGo, Bool.and_eq_true] at h
    have hm := (okM_iff _ _).1 h.1
    have hall := mayGo_mem t m.1 h.2
    by_cases e : m.1 < id
    · have hc : cntLt (m :: t) id = cntLt t id + 1 := by simp [cntLt, e]
      rw [roleOf, if_neg (by omega)] at h0
      obtain ⟨i1, i2⟩ := set_go t m.1 h.2 id r hr h0
      rw [hc, List.set_cons_succ]
      refine ⟨by rw [mayGo, Bool.and_eq_true]; exact ⟨h.1, i1⟩, fun k => ?_⟩
      rw [roleOf, i2, roleOf]
      by_cases e1 : m.1 = k
      · rw [if_pos e1, if_neg (by omega), if_pos e1]
      · rw [if_neg e1, if_neg e1]
    · have hc : cntLt (m :: t) id = 0 := by
        simp only [cntLt, List.length_eq_zero_iff, List.filter_eq_nil_iff]
        intro x hx
        rcases List.mem_cons.1 hx with rfl | hx
        · simpa using e
        · have := hall x hx; simp; omega
      have e2 : m.1 = id := by
        rcases Int.lt_or_eq_of_le (Int.not_lt.1 e) with h' | h'
        · exfalso; apply h0
          rw [roleOf, if_neg (by omega)]
          exact roleOf_low t m.1 h.2 id (by omega)
        · exact h'.symm
      rw [hc, List.set_cons_zero]
      refine ⟨by rw [mayGo, Bool.and_eq_true, okM_iff]; exact ⟨⟨by simp only; omega, by simp only; omega, hr⟩, by simp only; rw [← e2]; exact h.2⟩, fun k => ?_⟩
      rw [roleOf, roleOf]
      by_cases e1 : k = id
      · simp [e1]
      · rw [if_neg (fun h => e1 h.symm), if_neg e1, if_neg (by omega)]
theorem change_with {l : List (Int × Int)} (h : mayM l = true) {id r : Int} (hr : r = 1 ∨ r = 2) (h0 : roleOf l id ≠ 0) : l.set (cntLt l id) (id, r) = withM l id r := by
  obtain ⟨i1, i2⟩ := set_go l 0 h id r hr h0
  exact may_ext i1 (withM_may h (.inr hr)) fun k hk1 hk8 => by rw [i2, withM_role l id r k hk1 hk8]
end Go.Proofs.Ythcnhibjddomdaa
