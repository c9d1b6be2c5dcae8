/- Sessions: plain laws: rosters, those who are not there, tokens, May put together. Conditions: as each statement says. -/
import Derived.Test.YthcnhibjddomdaaSee
import Derived.Test.YthcnhibjddomdaaTokP
import Derived.Test.YthcnhibjddomdaaMg2
import Derived.Test.YthcnhibjddomdaaSz3
set_option linter.unusedVariables false
set_option linter.unusedSimpArgs false
set_option linter.unusedSectionVars false
namespace Go.Proofs.Ythcnhibjddomdaa
open Go
theorem ilt_or (a b : Int) : a < b ∨ b ≤ a := by omega
/-! ### Rosters -/
theorem there_iff {l : List (Int × Int)} (hm : mayM l = true) (id : Int) : thereB l id = true ↔ roleOf l id ≠ 0 := by
  unfold thereB idB
  simp only [hm, Bool.true_and, Bool.and_eq_true, decide_eq_true_eq]
  constructor
  · rintro ⟨_, h⟩; exact h
  · intro h
    refine ⟨⟨?_, ?_⟩, h⟩
    · rcases ilt_or 0 id with h1 | h1
      · omega
      · exact absurd (roleOf_low l 0 hm id h1) h
    · rcases ilt_or 8 id with h1 | h1
      · exact absurd (roleOf_hi l 0 hm id h1) h
      · exact h1
theorem there_id {l : List (Int × Int)} {id : Int} (h : thereB l id = true) : 1 ≤ id ∧ id ≤ 8 := by
  simp only [thereB, idB, Bool.and_eq_true, decide_eq_true_eq] at h
  exact h.1.2
theorem wr_iff {l : List (Int × Int)} (hm : mayM l = true) (id : Int) : wrB l id = true ↔ roleOf l id = 2 := by
  unfold wrB
  rw [Bool.and_eq_true, decide_eq_true_eq, there_iff hm]
  constructor
  · exact fun h => h.2
  · intro h; exact ⟨by omega, h⟩
theorem mem_role : ∀ (l : List (Int × Int)) (last : Int), mayGo last l = true → ∀ id r, r ≠ 0 → ((id, r) ∈ l ↔ roleOf l id = r)
  | [], _, _, id, r, hr => by simp [roleOf]; omega
  | m :: t, last, h, id, r, hr => by
    rw [mayGo, Bool.and_eq_true, okM_iff] at h
    rw [List.mem_cons, mem_role t m.1 h.2 id r hr, roleOf]
    by_cases e : m.1 = id
    · rw [if_pos e, roleOf_low t m.1 h.2 id (by omega)]
      constructor
      · rintro (h | h)
        · rw [← h]
        · omega
      · intro h; left; rw [← e, ← h]
    · rw [if_neg e]
      constructor
      · rintro (h | h)
        · exact absurd (by rw [← h]) e
        · exact h
      · exact .inr
theorem mem_writers {l : List (Int × Int)} (hm : mayM l = true) (id : Int) : id ∈ writersM l ↔ roleOf l id = 2 := by
  unfold writersM
  rw [← mem_role l 0 hm id 2 (by omega), List.mem_map]
  constructor
  · rintro ⟨⟨a, b⟩, h, rfl⟩
    rw [List.mem_filter] at h
    simp only [decide_eq_true_eq] at h
    obtain ⟨h1, rfl⟩ := h
    exact h1
  · intro h
    exact ⟨(id, 2), List.mem_filter.2 ⟨h, by simp⟩, rfl⟩
theorem mem_ids {l : List (Int × Int)} (hm : mayM l = true) (id : Int) : id ∈ idsL l ↔ roleOf l id ≠ 0 := by
  unfold idsL
  rw [List.mem_map]
  constructor
  · rintro ⟨⟨a, b⟩, h, rfl⟩
    have hb := (mayGo_mem l 0 hm _ h).2.2
    have := (mem_role l 0 hm a b (by simp only at hb; omega)).1 h
    simp only at hb ⊢
    omega
  · intro h
    exact ⟨(id, roleOf l id), (mem_role l 0 hm id _ h).2 rfl, rfl⟩
/-! ### Those who are not there -/
def absB (l : List (Int × Int)) (i n : Nat) : Bool := decide (i ≤ n) && decide (n < 9) && !thereB l n
def offAll (s : Ses) (i : Nat) : Ses := { s with k := fun n => if absB s.mem i n = true then 0 else s.k n, w := fun n => if absB s.mem i n = true then (0, 0) else s.w n, q := s.q.filter fun x => !(decide (0 ≤ x.1) && absB s.mem i x.1.toNat) }
theorem abs_there {l : List (Int × Int)} {i : Nat} (h : thereB l i = true) (n : Nat) : absB l (i + 1) n = absB l i n := by
  unfold absB
  by_cases e : n = i
  · subst e; simp [h]
  · have : decide (i + 1 ≤ n) = decide (i ≤ n) := by rw [decide_eq_decide]; omega
    rw [this]
theorem abs_not {l : List (Int × Int)} {i : Nat} (h9 : i < 9) (h : thereB l i = false) (n : Nat) : absB l i n = (absB l (i + 1) n || decide (n = i)) := by
  unfold absB
  by_cases e : n = i
  · subst e; simp [h, h9]
  · have : decide (i + 1 ≤ n) = decide (i ≤ n) := by rw [decide_eq_decide]; omega
    rw [this]; simp [e]
theorem filter_cp {q : List Pc} (h : cpQ q = q) (p : Pc → Bool) : cpQ (q.filter p) = q.filter p := by
  have : ∀ x ∈ q, cp x = x := by
    intro x hx
    have h1 : ∀ (l : List Pc), l.map cp = l → ∀ x ∈ l, cp x = x := by
      intro l
      induction l with
      | nil => intro _ x hx; simp at hx
      | cons y t ih =>
        intro h x hx
        rw [List.map_cons, List.cons.injEq] at h
        rcases List.mem_cons.1 hx with rfl | hx
        · exact h.1
        · exact ih h.2 x hx
    exact h1 q h x hx
  unfold cpQ
  rw [List.map_congr_left (g := id) fun x hx => this x (List.mem_filter.1 hx).1, List.map_id]
theorem offs_eq : ∀ (m i : Nat) (s : Ses), i + m = 9 → mayQ 0 s.q = true → cpQ s.q = s.q → s.f3 = false → offs s m i = offAll s i
  | 0, i, s, hi, _, _, _ => by
    have e : ∀ n, absB s.mem i n = false := fun n => by
      unfold absB
      have : (decide (i ≤ n) && decide (n < 9)) = false := by simp; omega
      rw [this, Bool.false_and]
    rw [offs]
    unfold offAll
    simp only [e, Bool.and_false, Bool.not_false, Bool.false_eq_true, if_false]
    rw [List.filter_eq_self.2 (fun _ _ => rfl)]
  | m + 1, i, s, hi, hq, hc, hf => by
    rw [offs]
    cases ht : thereB s.mem i with
    | true =>
      rw [if_pos rfl, offs_eq m (i + 1) s (by omega) hq hc hf]
      unfold offAll
      simp only [abs_there ht]
    | false =>
      rw [if_neg (by simp)]
      have hd : dropM s.q i = s.q.filter fun x => !decide (x.1 = (i : Int)) := by rw [dropM, if_pos hq, filter_cp hc]
      have hm : (offS s i).mem = s.mem := rfl
      have hq' : (offS s i).q = s.q.filter fun x => !decide (x.1 = (i : Int)) := hd
      rw [offs_eq m (i + 1) (offS s i) (by omega) (by rw [hq']; exact may_filter hq _) (by rw [hq']; exact filter_cp hc _) rfl]
      unfold offAll
      rw [hm, hq', List.filter_filter]
      have hab := abs_not (l := s.mem) (i := i) (by omega) ht
      have ek : (fun n => if absB s.mem (i + 1) n = true then (0 : Int) else (offS s i).k n) = fun n => if absB s.mem i n = true then 0 else s.k n := by
        funext n
        have : (offS s i).k n = if n = i then 0 else s.k n := rfl
        rw [this, hab n]
        by_cases e : n = i <;> simp [e]
      have ew : (fun n => if absB s.mem (i + 1) n = true then ((0, 0) : Int × Int) else (offS s i).w n) = fun n => if absB s.mem i n = true then (0, 0) else s.w n := by
        funext n
        have : (offS s i).w n = if n = i then (0, 0) else s.w n := rfl
        rw [this, hab n]
        by_cases e : n = i <;> simp [e]
      have ef : (fun x : Pc => (!(decide (0 ≤ x.1) && absB s.mem (i + 1) x.1.toNat)) && !decide (x.1 = (i : Int))) = fun x => !(decide (0 ≤ x.1) && absB s.mem i x.1.toNat) := by
        funext x
        rw [hab]
        by_cases h0 : 0 ≤ x.1
        · have e1 : decide (x.1 = (i : Int)) = decide (x.1.toNat = i) := by rw [decide_eq_decide]; omega
          rw [e1]
          simp only [h0, decide_true, Bool.true_and, Bool.not_or]
        · have e1 : decide (x.1 = (i : Int)) = false := by simp; omega
          rw [e1]
          simp [h0]
      rw [ek, ew, ef]
      simp only [offS]
      rw [← hf]
/-! ### A copy -/
theorem popN_neg : ∀ (q : List Pc), popN q (-1) = 0
  | [] => rfl
  | x :: q => by rw [popN, if_neg (by omega)]
theorem cpS_q {s : Ses} (h : mayQ 0 s.q = true) : (cpS s).q = cpQ s.q := by
  show (popM s.q (-1)).1 = _
  rw [popM, if_pos h, popN_neg]; rfl
/-! ### Tokens -/
theorem tok_all {h : Int} {tq : List Int} {l : List (Int × Int)} (hm : mayT h tq = true) : ((h = 0 ∨ wrB l h = true) ∧ ∀ id ∈ tq, wrB l id = true) ↔ ∀ x ∈ allT h tq, wrB l x = true := by
  have h0 := ((mayT_iff h tq).1 hm).2
  unfold allT
  by_cases e : h = 0
  · rw [if_pos e, h0 e]; simp [e]
  · rw [if_neg e]; simp [e]
/-! ### May, put together -/
theorem tkFrom_of (s : Ses) : ∀ (m i : Nat), (∀ j, i ≤ j → j < i + m → tkB s j = true) → tkFrom s m i = true
  | 0, _, _ => rfl
  | m + 1, i, h => by rw [tkFrom, h i (Nat.le_refl _) (by omega), tkFrom_of s m (i + 1) fun j h1 h2 => h j (by omega) (by omega)]; rfl
theorem ses_mk {s : Ses} (h1 : mayM s.mem = true) (h2 : mayT s.h s.tq = true) (h3 : mayQ 0 s.q = true) (h4 : mayW s.w = true) (h5 : sizB s = true) (h6 : ∀ x ∈ allT s.h s.tq, wrB s.mem x = true) (h8 : ∀ j, j < 9 → tkB s j = true) (h9 : ∀ t ∈ s.q, outB s t = false) : sesB s = true := by
  obtain ⟨a, b⟩ := (tok_all h2).2 h6
  simp only [sesB, Bool.and_eq_true, Bool.or_eq_true, decide_eq_true_eq, Bool.not_eq_true', List.any_eq_false, Bool.not_eq_true]
  exact ⟨⟨⟨⟨⟨⟨⟨⟨h1, h2⟩, h3⟩, h4⟩, h5⟩, a⟩, fun id hi => by simpa using b id hi⟩, tkFrom_of s 9 0 fun j _ h => h8 j (by omega)⟩, fun t ht => by simpa using h9 t ht⟩
theorem mayW_at {w : Nat → Int × Int} (h : mayW w = true) (j : Nat) (hj : j < 9) : okW w j = true := mayFrom_ok w 9 0 h j (by omega) (by omega)
theorem mayFrom_mk (w : Nat → Int × Int) : ∀ (m i : Nat), (∀ j, i ≤ j → j < i + m → okW w j = true) → mayFrom w m i = true
  | 0, _, _ => rfl
  | m + 1, i, h => by rw [mayFrom, h i (Nat.le_refl _) (by omega), mayFrom_mk w m (i + 1) fun j h1 h2 => h j (by omega) (by omega)]; rfl
theorem mayW_mk {w : Nat → Int × Int} (h : ∀ j, j < 9 → okW w j = true) : mayW w = true := mayFrom_mk w 9 0 fun j _ hj => h j (by omega)
/-- The token of those who may write. -/
def tokF (s : Ses) : List Int := (allT s.h s.tq).filter fun x => decide (x ∈ writersM s.mem)
theorem stS_tok {s : Ses} (h1 : mayM s.mem = true) (h2 : mayT s.h s.tq = true) : (stS s).h = (ofT (tokF s)).1 ∧ (stS s).tq = (ofT (tokF s)).2 := by
  have h : keepT s.h s.tq (if mayM s.mem = true then writersM s.mem else []) = ((ofT (tokF s)).1, (ofT (tokF s)).2, 0) := by rw [if_pos h1, keepT_of _ h2]; rfl
  exact ⟨show (keepT s.h s.tq (if mayM s.mem = true then writersM s.mem else [])).1 = _ by rw [h], show (keepT s.h s.tq (if mayM s.mem = true then writersM s.mem else [])).2.1 = _ by rw [h]⟩
theorem tokF_good {s : Ses} (h2 : mayT s.h s.tq = true) : GoodT (tokF s) := ((mayT_iff s.h s.tq).1 h2).1.filter _
theorem stS_all {s : Ses} (h1 : mayM s.mem = true) (h2 : mayT s.h s.tq = true) : allT (stS s).h (stS s).tq = tokF s := by
  obtain ⟨a, b⟩ := stS_tok h1 h2
  rw [a, b, all_of (tokF_good h2)]
theorem leastW_siz {w : Nat → Int × Int} {ids : List Int} {r c : Int} (h : 1 ≤ r ∧ r ≤ 24 ∧ 1 ≤ c ∧ c ≤ 40) : 1 ≤ (leastW w ids r c).1 ∧ (leastW w ids r c).1 ≤ 24 ∧ 1 ≤ (leastW w ids r c).2 ∧ (leastW w ids r c).2 ≤ 40 := by
  unfold leastW
  split
  · rename_i hw
    have a := lst_pos hw.1 ids
    have b := (lst_le1 w ids (lstW w ids).2.1).1 (Int.le_refl _)
    have c := (lst_le2 w ids (lstW w ids).2.2).1 (Int.le_refl _)
    omega
  · exact h
theorem sizB_iff (s : Ses) : sizB s = true ↔ 1 ≤ s.r ∧ s.r ≤ 24 ∧ 1 ≤ s.c ∧ s.c ≤ 40 := by
  simp only [sizB, Bool.and_eq_true, decide_eq_true_eq]
  constructor
  · rintro ⟨⟨⟨a, b⟩, c⟩, d⟩; exact ⟨a, b, c, d⟩
  · rintro ⟨a, b, c, d⟩; exact ⟨⟨⟨a, b⟩, c⟩, d⟩
theorem stS_ok {s : Ses} (h1 : mayM s.mem = true) (h2 : mayT s.h s.tq = true) (h3 : mayQ 0 s.q = true) (h4 : mayW s.w = true) (h5 : sizB s = true) (h8 : ∀ j, j < 9 → tkB s j = true) (h9 : ∀ t ∈ s.q, outB s t = false) : sesB (stS s) = true := by
  obtain ⟨a, b⟩ := stS_tok h1 h2
  refine ses_mk (s := stS s) h1 ?_ h3 h4 ?_ ?_ h8 h9
  · rw [a, b]; exact may_of (tokF_good h2)
  · rw [sizB_iff] at h5 ⊢
    exact leastW_siz h5
  · rw [stS_all h1 h2]
    intro x hx
    have := (List.mem_filter.1 hx).2
    rw [decide_eq_true_eq, mem_writers h1] at this
    exact (wr_iff h1 x).2 this
end Go.Proofs.Ythcnhibjddomdaa
