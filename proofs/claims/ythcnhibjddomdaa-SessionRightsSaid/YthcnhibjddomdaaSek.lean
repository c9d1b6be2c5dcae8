/- Sessions: the law's arguments as sessions and deeds; plain laws of Take. Conditions: as each statement says. -/
import Derived.Test.YthcnhibjddomdaaSeg
import Derived.Test.YthcnhibjddomdaaM3
import Derived.Test.YthcnhibjddomdaaSei
set_option linter.unusedVariables false
set_option linter.unusedSimpArgs false
set_option linter.unusedSectionVars false
set_option maxRecDepth 20000
set_option maxHeartbeats 4000000
namespace Go.Proofs.Ythcnhibjddomdaa
open Go
theorem tys_u8 {g : List AV} (h : HasTys [.int .u8] g) : ∃ x, g = [AV.int .u8 x] := by
  obtain ⟨a, as, rfl, ha, h2⟩ := tys_cons h
  have := tys_nil h2
  subst this
  obtain ⟨x, rfl, _⟩ := ty_int ha
  exact ⟨x, rfl⟩
theorem ty_byt {a : AV} (h : HasTy (.sl [.int .u8]) a) : ∃ l f, a = .data false 1 (byt l) f := by
  simp only [HasTy] at h
  obtain ⟨es, f, rfl, hl, he⟩ := h
  obtain ⟨l, rfl, _⟩ := list_of (Q := fun _ => True) (f := fun x => [AV.int .u8 x]) es (fun g hg => by obtain ⟨x, rfl⟩ := tys_u8 (he g hg); exact ⟨x, rfl, trivial⟩)
  exact ⟨l, f, rfl⟩
/-- A deed's. -/
theorem ty_deed {a : List AV} (h : HasTys [.int .i64, .sl [.int .u8], .int .i64, .int .i64] a) : ∃ d : Dd, a = dC d := by
  obtain ⟨x0, r0, rfl, h0, t0⟩ := tys_cons h
  obtain ⟨x1, r1, rfl, h1, t1⟩ := tys_cons t0
  obtain ⟨x2, r2, rfl, h2, t2⟩ := tys_cons t1
  obtain ⟨x3, r3, rfl, h3, t3⟩ := tys_cons t2
  have := tys_nil t3
  subst this
  obtain ⟨k, rfl, _⟩ := ty_int h0
  obtain ⟨l, f, rfl⟩ := ty_byt h1
  obtain ⟨r, rfl, _⟩ := ty_int h2
  obtain ⟨c, rfl, _⟩ := ty_int h3
  exact ⟨(k, l, r, c, f), rfl⟩
/-! ### Take -/
theorem okS_may {s : Ses} (hs : sesB s = true) : okS s := by
  obtain ⟨g1, g2, g3, g4, g5, g6, g7, g8, g9⟩ := ses_parts hs
  refine ⟨by have := mayM_len g1; omega, ?_, okL_may g3⟩
  have hg := ((mayT_iff s.h s.tq).1 g2).1
  have h0 := ((mayT_iff s.h s.tq).1 g2).2
  have key : ∀ (n : Nat) (l : List Int), l.Nodup → (∀ x ∈ l, 1 ≤ x ∧ x ≤ n) → l.length ≤ n := by
    intro n
    induction n with
    | zero =>
      intro l _ h
      cases l with
      | nil => exact Nat.le_refl _
      | cons x l => have := h x (by simp); omega
    | succ n ih =>
      intro l hn h
      have h1 : (l.filter fun x => !decide (x = ((n + 1 : Nat) : Int))).length ≤ n := ih _ (hn.filter _) fun x hx => by
        obtain ⟨a, b⟩ := List.mem_filter.1 hx
        have := h x a
        simp only [Bool.not_eq_true', decide_eq_false_iff_not] at b
        omega
      have h2 : ∀ (l : List Int) (y : Int), l.Nodup → l.length ≤ (l.filter fun x => !decide (x = y)).length + 1 := by
        intro l y
        induction l with
        | nil => intro _; simp
        | cons x l ih =>
          intro hn
          rw [List.nodup_cons] at hn
          rw [List.filter_cons]
          by_cases e : x = y
          · subst e
            rw [if_neg (by simp), List.filter_eq_self.2 (fun z hz => by simp; intro e; exact hn.1 (e ▸ hz))]
            simp
          · rw [if_pos (by simp [e]), List.length_cons, List.length_cons]
            have := ih hn.2
            omega
      have := h2 l ((n + 1 : Nat) : Int) hn
      omega
  unfold allT at hg
  by_cases e : s.h = 0
  · rw [h0 e]; simp
  · rw [if_neg e] at hg
    have := key 8 _ hg.2 hg.1
    rw [List.length_cons] at this
    omega
end Go.Proofs.Ythcnhibjddomdaa
