/- Whatever is done, a line stays one that may be. Plain laws. Conditions: none. -/
import Derived.Test.YtmmkjbcklghopaaDoorLinA
set_option linter.unusedVariables false
set_option linter.unusedSimpArgs false
set_option linter.unusedSectionVars false
set_option maxRecDepth 20000
set_option maxHeartbeats 1000000
namespace Go.Proofs.YtmmkjbcklghopaaDoor
open Go
theorem mayL_nil : mayL [] = true := by decide
theorem take_max {l : List Cl} {n : Nat} (h : l.length ≤ n) : l.take n = l := List.take_of_length_le h
/-- Torn at two places: may be, cut at both. -/
theorem torn_two {l : List Cl} (h : MayP l) (x y : Nat) : MayP (tornL (tornL l (x : Int)) (y : Int)) ∧ CutP (tornL (tornL l (x : Int)) (y : Int)) x ∧ CutP (tornL (tornL l (x : Int)) (y : Int)) y ∧ (tornL (tornL l (x : Int)) (y : Int)).length = l.length :=
  ⟨may_torn (may_torn h _) _, cut_torn_other _ _ _ (cut_torn l x (.inr h)), cut_torn _ y (.inr (may_torn h _)), by rw [torn_len, torn_len]⟩
theorem fine_split {l : List Cl} {b f k : Int} (h : (mayL l && penB b f k) = true) : l.length ≤ 1000 ∧ MayP l ∧ inN k 256 = true := by
  rw [Bool.and_eq_true] at h
  have := (mayL_iff l).1 h.1
  exact ⟨this.1, this.2, penB_k h.2⟩
theorem erase_may {l : List Cl} (h : mayL l = true) (s e b f k : Int) : mayL (eraseT l s e b f k) = true ∧ (penB b f k = true → (eraseT l s e b f k).length = l.length) := by
  unfold eraseT
  by_cases hf : (mayL l && penB b f k) = true
  case neg => rw [if_neg hf]; exact ⟨mayL_nil, fun hp => absurd (by rw [h, hp]; rfl) hf⟩
  rw [if_pos hf]
  obtain ⟨hl, hm, hk⟩ := fine_split hf
  by_cases c : min e l.length ≤ max 0 s
  · rw [if_pos c]; exact ⟨h, fun _ => rfl⟩
  rw [if_neg c]
  obtain ⟨x, hx⟩ : ∃ x : Nat, max 0 s = x := ⟨(max 0 s).toNat, by omega⟩
  obtain ⟨y, hy⟩ : ∃ y : Nat, min e (l.length : Int) = y := ⟨(min e l.length).toNat, by omega⟩
  rw [hx, hy, Int.toNat_natCast, Int.toNat_natCast]
  obtain ⟨m, c1, c2, el⟩ := torn_two hm x y
  generalize tornL (tornL l x) y = E at *
  have hlen : (List.take x E ++ List.replicate (y - x) (blankC k) ++ List.drop y E).length = l.length := by simp [el]; omega
  exact ⟨(mayL_iff _).2 ⟨by omega, may_app (may_app (may_take m c1 (by omega)) (may_blanks hk _)) (may_drop m c2 (by omega))⟩, fun _ => hlen⟩
theorem insert_may {l : List Cl} (h : mayL l = true) (a n b f k : Int) : mayL (insertT l a n b f k) = true ∧ (penB b f k = true → (insertT l a n b f k).length = l.length) := by
  unfold insertT
  by_cases hf : (mayL l && penB b f k) = true
  case neg => rw [if_neg hf]; exact ⟨mayL_nil, fun hp => absurd (by rw [h, hp]; rfl) hf⟩
  rw [if_pos hf]
  obtain ⟨hl, hm, hk⟩ := fine_split hf
  by_cases c : n < 1 ∨ a < 0 ∨ (l.length : Int) ≤ a
  · rw [if_pos c]; exact ⟨h, fun _ => rfl⟩
  rw [if_neg c]
  obtain ⟨x, rfl⟩ : ∃ x : Nat, a = x := ⟨a.toNat, by omega⟩
  obtain ⟨y, hy⟩ : ∃ y : Nat, min n ((l.length : Int) - x) = y := ⟨(min n ((l.length : Int) - x)).toNat, by omega⟩
  rw [hy, Int.toNat_natCast, Int.toNat_natCast, show (l.length : Int) - (y : Int) = ((l.length - y : Nat) : Int) by omega]
  obtain ⟨m, c1, c2, el⟩ := torn_two hm x (l.length - y)
  generalize tornL (tornL l x) ((l.length - y : Nat) : Int) = E at *
  have hlen : (List.take x E ++ List.replicate y (blankC k) ++ List.take (l.length - (x + y)) (List.drop x E)).length = l.length := by simp [el]; omega
  have md := may_drop m c1 (by omega)
  have cd : CutP (List.drop x E) (l.length - (x + y)) := fun hh => by
    rw [at_drop, show x + (l.length - (x + y)) = l.length - y by omega]
    exact c2 (by simp at hh; omega)
  exact ⟨(mayL_iff _).2 ⟨by omega, may_app (may_app (may_take m c1 (by omega)) (may_blanks hk _)) (may_take md cd (by simp; omega))⟩, fun _ => hlen⟩
theorem delete_may {l : List Cl} (h : mayL l = true) (a n b f k : Int) : mayL (deleteT l a n b f k) = true ∧ (penB b f k = true → (deleteT l a n b f k).length = l.length) := by
  unfold deleteT
  by_cases hf : (mayL l && penB b f k) = true
  case neg => rw [if_neg hf]; exact ⟨mayL_nil, fun hp => absurd (by rw [h, hp]; rfl) hf⟩
  rw [if_pos hf]
  obtain ⟨hl, hm, hk⟩ := fine_split hf
  by_cases c : n < 1 ∨ a < 0 ∨ (l.length : Int) ≤ a
  · rw [if_pos c]; exact ⟨h, fun _ => rfl⟩
  rw [if_neg c]
  obtain ⟨x, rfl⟩ : ∃ x : Nat, a = x := ⟨a.toNat, by omega⟩
  obtain ⟨y, hy⟩ : ∃ y : Nat, min n ((l.length : Int) - x) = y := ⟨(min n ((l.length : Int) - x)).toNat, by omega⟩
  rw [hy, Int.toNat_natCast, Int.toNat_natCast, show (x : Int) + (y : Int) = ((x + y : Nat) : Int) by omega]
  obtain ⟨m, c1, c2, el⟩ := torn_two hm x (x + y)
  generalize tornL (tornL l x) ((x + y : Nat) : Int) = E at *
  have hlen : (List.take x E ++ List.drop (x + y) E ++ List.replicate y (blankC k)).length = l.length := by simp [el]; omega
  exact ⟨(mayL_iff _).2 ⟨by omega, may_app (may_app (may_take m c1 (by omega)) (may_drop m c2 (by omega))) (may_blanks hk _)⟩, fun _ => hlen⟩
theorem fit_may {l : List Cl} (h : mayL l = true) (n : Int) : mayL (fitT l n) = true ∧ (0 ≤ n → n ≤ 1000 → ((fitT l n).length : Int) = n) := by
  unfold fitT
  by_cases hf : mayL l = true ∧ 0 ≤ n ∧ n ≤ 1000
  case neg => rw [if_neg hf]; exact ⟨mayL_nil, fun h0 h1 => absurd ⟨h, h0, h1⟩ hf⟩
  rw [if_pos hf]
  obtain ⟨_, h0, h1⟩ := hf
  obtain ⟨hl, hm⟩ := (mayL_iff l).1 h
  obtain ⟨y, rfl⟩ : ∃ y : Nat, n = y := ⟨n.toNat, by omega⟩
  rw [Int.toNat_natCast]
  have m := may_torn hm (y : Int)
  have c := cut_torn l y (.inr hm)
  have el := torn_len l (y : Int)
  generalize tornL l (y : Int) = E at *
  have hlen : (List.take (min y l.length) E ++ List.replicate (y - min y l.length) (blankC 0)).length = y := by simp [el]; omega
  refine ⟨(mayL_iff _).2 ⟨by omega, may_app (may_take m (fun hh => ?_) (by omega)) (may_blanks (by decide) _)⟩, fun _ _ => by omega⟩
  have e : min y l.length = y := by omega
  rw [e] at hh ⊢
  exact c hh
theorem tear_may {l : List Cl} (h : mayL l = true) (i : Int) : mayL (tearT l i) = true ∧ (tearT l i).length = l.length := by
  unfold tearT
  rw [if_pos h]
  obtain ⟨hl, hm⟩ := (mayL_iff l).1 h
  exact ⟨(mayL_iff _).2 ⟨by rw [torn_len]; exact hl, may_torn hm i⟩, torn_len l i⟩
theorem may_one {x : Cl} (h : mayC x = true) (h0 : x.h = 0) : MayP [x] := by
  refine ⟨fun i hi => ?_, fun i hi h1 => ?_, fun i hi h2 => ?_, fun i hi => ?_⟩
  · simp at hi; subst hi; exact h
  · simp at hi
  · simp at hi; subst hi
    exact absurd (show x.h = 2 from h2) (by omega)
  · simp at hi; subst hi
    show x.h ≠ 1
    omega
theorem may_wide {x y : Cl} (h : mayC x = true) (k : mayC y = true) (h1 : x.h = 1) (h2 : y.h = 2) (hp : x.p = y.p) : MayP [x, y] := by
  refine ⟨fun i hi => ?_, fun i hi e => ?_, fun i hi e => ?_, fun i hi => ?_⟩
  · simp at hi
    rcases (by omega : i = 0 ∨ i = 1) with rfl | rfl
    · exact h
    · exact k
  · obtain rfl : i = 0 := by simp at hi; omega
    exact ⟨h2, hp⟩
  · simp at hi
    rcases (by omega : i = 0 ∨ i = 1) with rfl | rfl
    · exact absurd (show x.h = 2 from e) (by omega)
    · exact ⟨by omega, h1⟩
  · simp at hi; subst hi
    show y.h ≠ 1
    omega
theorem put_may {l : List Cl} (h : mayL l = true) (a c b f k : Int) : mayL (putT l a c b f k) = true ∧ (penB b f k = true → (putT l a c b f k).length = l.length) := by
  unfold putT
  by_cases hf : (mayL l && penB b f k) = true
  case neg => rw [if_neg hf]; exact ⟨mayL_nil, fun hp => absurd (by rw [h, hp]; rfl) hf⟩
  rw [if_pos hf]
  obtain ⟨hl, hm, hk⟩ := fine_split hf
  have hp : penB b f k = true := by rw [Bool.and_eq_true] at hf; exact hf.2
  have hr := ofR_range c
  by_cases cc : ofR c < 1 ∨ a < 0 ∨ (l.length : Int) - ofR c < a
  · rw [if_pos cc]; exact ⟨h, fun _ => rfl⟩
  rw [if_neg cc]
  obtain ⟨x, rfl⟩ : ∃ x : Nat, a = x := ⟨a.toNat, by omega⟩
  rw [Int.toNat_natCast]
  by_cases h2 : ofR c = 2
  · rw [if_pos h2, show (x : Int) + 2 = ((x + 2 : Nat) : Int) by omega]
    obtain ⟨m, c1, c2, el⟩ := torn_two hm x (x + 2)
    generalize tornL (tornL l x) ((x + 2 : Nat) : Int) = E at *
    have e : (E.set x ⟨c, 0, 0, 1, ⟨b, f, k⟩⟩).set (x + 1) ⟨0, 0, 0, 2, ⟨b, f, k⟩⟩ = E.take x ++ [⟨c, 0, 0, 1, ⟨b, f, k⟩⟩, ⟨0, 0, 0, 2, ⟨b, f, k⟩⟩] ++ E.drop (x + 2) := by
      have hx : (List.take x E).length = x := by simp; omega
      refine at_ext (by simp; omega) fun i hi => ?_
      simp only [List.length_set] at hi
      rw [at_set, at_set, at_app, at_app, List.length_append, hx, List.length_set]
      by_cases i1 : i < x
      · rw [if_neg (by omega), if_neg (by omega), if_pos (by simp; omega), if_pos i1, at_take _ i1]
      · by_cases i2 : i = x
        · subst i2
          rw [if_neg (by omega), if_pos ⟨rfl, by omega⟩, if_pos (by simp), if_neg (by omega), Nat.sub_self]; rfl
        · by_cases i3 : i = x + 1
          · subst i3
            rw [if_pos ⟨rfl, by omega⟩, if_pos (by simp), if_neg (by omega), show x + 1 - x = 1 by omega]; rfl
          · rw [if_neg (by omega), if_neg (by omega), if_neg (by simp; omega), at_drop]
            congr 1
            simp
            omega
    have hlen : (E.take x ++ ([⟨c, 0, 0, 1, ⟨b, f, k⟩⟩, ⟨0, 0, 0, 2, ⟨b, f, k⟩⟩] : List Cl) ++ E.drop (x + 2)).length = l.length := by simp [el]; omega
    rw [e]
    refine ⟨(mayL_iff _).2 ⟨by omega, may_app (may_app (may_take m c1 (by omega)) (may_wide ?_ ?_ rfl rfl rfl)) (may_drop m c2 (by omega))⟩, fun _ => hlen⟩
    · unfold mayC
      rw [hp]
      simp [h2, markedB]
    · unfold mayC
      rw [hp]
      simp
  · have h1 : ofR c = 1 := by omega
    rw [if_neg h2, show (x : Int) + 1 = ((x + 1 : Nat) : Int) by omega]
    obtain ⟨m, c1, c2, el⟩ := torn_two hm x (x + 1)
    generalize tornL (tornL l x) ((x + 1 : Nat) : Int) = E at *
    have e : E.set x ⟨c, 0, 0, 0, ⟨b, f, k⟩⟩ = E.take x ++ [⟨c, 0, 0, 0, ⟨b, f, k⟩⟩] ++ E.drop (x + 1) := by
      rw [List.set_eq_take_append_cons_drop, if_pos (by omega)]; simp
    have hlen : (E.take x ++ ([⟨c, 0, 0, 0, ⟨b, f, k⟩⟩] : List Cl) ++ E.drop (x + 1)).length = l.length := by simp [el]; omega
    rw [e]
    refine ⟨(mayL_iff _).2 ⟨by omega, may_app (may_app (may_take m c1 (by omega)) (may_one ?_ rfl)) (may_drop m c2 (by omega))⟩, fun _ => hlen⟩
    unfold mayC
    rw [hp]
    simp [h1, markedB]
theorem may_set {l : List Cl} (h : MayP l) {y : Nat} {v : Cl} (hv : mayC v = true) (hh : v.h = (at' l y).h) (hp : v.p = (at' l y).p) : MayP (l.set y v) := by
  have hH : ∀ j, (at' (l.set y v) j).h = (at' l j).h := fun j => by
    rw [at_set]
    split
    · rename_i e; rw [hh, e.1]
    · rfl
  have hP : ∀ j, (at' (l.set y v) j).p = (at' l j).p := fun j => by
    rw [at_set]
    split
    · rename_i e; rw [hp, e.1]
    · rfl
  refine ⟨fun j hj => ?_, fun j hj => ?_, fun j hj => ?_, fun j hj => ?_⟩
  · rw [at_set]
    split
    · exact hv
    · exact h.cell j (by simpa using hj)
  · rw [hH, hH, hP, hP]; exact h.right j (by simpa using hj)
  · rw [hH, hH]; exact h.left j (by simpa using hj)
  · rw [hH]; exact h.last j (by simpa using hj)
theorem markC_may {x : Cl} {c : Int} (h : mayC x = true) (h2 : x.h ≠ 2) (hc : ofR c = 0) : mayC (markC x c) = true ∧ (markC x c).h = x.h ∧ (markC x c).p = x.p := by
  unfold mayC at h ⊢
  rw [if_neg h2] at h
  rw [Bool.and_eq_true, Bool.and_eq_true, Bool.and_eq_true] at h
  obtain ⟨h1, h3, h4, h5⟩ := h
  unfold markC
  unfold markedB at h5
  by_cases m0 : x.m0 = 0
  · rw [if_pos m0]
    rw [if_pos m0] at h5
    simp at h5
    refine ⟨?_, rfl, rfl⟩
    rw [if_neg (show ¬ (setM0 x c).h = 2 from h2)]
    show (penB x.p.b x.p.f x.p.k && ((decide (x.h = 0) || decide (x.h = 1)) && (decide (ofR x.c = x.h + 1) && markedB c x.m1))) = true
    rw [h1, h3, h4]
    unfold markedB
    by_cases e : c = 0 <;> simp [e, hc, h5]
  · rw [if_neg m0]
    by_cases m1 : x.m1 = 0
    · rw [if_pos m1]
      refine ⟨?_, rfl, rfl⟩
      rw [if_neg (show ¬ (setM1 x c).h = 2 from h2)]
      show (penB x.p.b x.p.f x.p.k && ((decide (x.h = 0) || decide (x.h = 1)) && (decide (ofR x.c = x.h + 1) && markedB x.m0 c))) = true
      rw [h1, h3, h4]
      unfold markedB
      rw [if_neg m0] at h5 ⊢
      simp at h5
      simp [h5.1, hc]
    · rw [if_neg m1]
      refine ⟨?_, rfl, rfl⟩
      rw [if_neg h2, h1, h3, h4]
      unfold markedB
      rw [h5]; rfl
theorem mark_may {l : List Cl} (h : mayL l = true) (a c : Int) : mayL (markT l a c) = true ∧ (markT l a c).length = l.length := by
  unfold markT
  rw [if_pos h]
  obtain ⟨hl, hm⟩ := (mayL_iff l).1 h
  by_cases cc : a < 0 ∨ (l.length : Int) ≤ a ∨ ¬ ofR c = 0
  · rw [if_pos cc]; exact ⟨h, rfl⟩
  rw [if_neg cc]
  obtain ⟨x, rfl⟩ : ∃ x : Nat, a = x := ⟨a.toNat, by omega⟩
  rw [Int.toNat_natCast]
  have hc : ofR c = 0 := by omega
  by_cases h2 : (at' l x).h = 2
  · rw [if_pos h2]
    have hp := hm.left x (by omega) h2
    obtain ⟨k1, k2, k3⟩ := markC_may (c := c) (hm.cell (x - 1) (by omega)) (by omega) hc
    exact ⟨(mayL_iff _).2 ⟨by simpa using hl, may_set hm k1 k2 k3⟩, by simp⟩
  · rw [if_neg h2]
    obtain ⟨k1, k2, k3⟩ := markC_may (c := c) (hm.cell x (by omega)) h2 hc
    exact ⟨(mayL_iff _).2 ⟨by simpa using hl, may_set hm k1 k2 k3⟩, by simp⟩
/-- Something that is done. -/
def opT (l : List Cl) (kind a n c b f k : Int) : List Cl :=
  if kind = 0 then putT l a c b f k else if kind = 1 then markT l a c else if kind = 2 then eraseT l a n b f k else if kind = 3 then insertT l a n b f k
  else if kind = 4 then deleteT l a n b f k else if kind = 5 then fitT l n else if kind = 6 then tearT l a else l
theorem op_may {l : List Cl} (h : mayL l = true) (kind a n c b f k : Int) : mayL (opT l kind a n c b f k) = true := by
  unfold opT
  repeat' split
  · exact (put_may h a c b f k).1
  · exact (mark_may h a c).1
  · exact (erase_may h a n b f k).1
  · exact (insert_may h a n b f k).1
  · exact (delete_may h a n b f k).1
  · exact (fit_may h n).1
  · exact (tear_may h a).1
  · exact h
theorem op14_len {l : List Cl} (h : mayL l = true) (kind a n c : Int) {b f k : Int} (hp : penB b f k = true) (h5 : kind = 5 → 0 ≤ n ∧ n ≤ 1000) : ((opT l kind a n c b f k).length : Int) = if kind = 5 then n else l.length := by
  unfold opT
  by_cases k0 : kind = 0
  · subst k0; simp [(put_may h a c b f k).2 hp]
  by_cases k1 : kind = 1
  · subst k1; simp [(mark_may h a c).2]
  by_cases k2 : kind = 2
  · subst k2; simp [(erase_may h a n b f k).2 hp]
  by_cases k3 : kind = 3
  · subst k3; simp [(insert_may h a n b f k).2 hp]
  by_cases k4 : kind = 4
  · subst k4; simp [(delete_may h a n b f k).2 hp]
  by_cases k5 : kind = 5
  · subst k5; simp [(fit_may h n).2 (h5 rfl).1 (h5 rfl).2]
  by_cases k6 : kind = 6
  · subst k6; simp [(tear_may h a).2]
  · simp [k0, k1, k2, k3, k4, k5, k6]
end Go.Proofs.YtmmkjbcklghopaaDoor
