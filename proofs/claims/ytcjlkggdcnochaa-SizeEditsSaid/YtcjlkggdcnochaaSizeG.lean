/- The plain law of the least window, and the walk of the law SizeLeast. Conditions: the list may be read. -/
import Derived.Test.YtcjlkggdcnochaaSizeF
import Derived.Test.YtcjlkggdcnochaaRead
namespace Go.Proofs.Ytcjlkggdcnochaa
open Go.RowKit

theorem win_of {cs : Array Value} (h : IntsOf (List.replicate 18 .i64) cs.toList) : ∃ x : Nat → Int, cs = winCells x := by
  obtain ⟨l, hl, hc, _⟩ := h.one
  refine ⟨fun j => l.getD j 0, ?_⟩
  apply Array.toList_inj.1
  rw [hc]
  apply List.ext_getElem?
  intro j
  by_cases hj : j < 18
  · simp [winCells, winL, hj, hl]
  · rw [List.getElem?_eq_none (by simp; omega), List.getElem?_eq_none (by simp [winCells, winL]; omega)]
theorem mayTo_row (x : Nat → Int) {n : Nat} (h : mayTo x n = true) : ∀ i, i < n → rowOk x i = true := by
  induction n with
  | zero => intro i hi; omega
  | succ n ih =>
    simp only [mayTo, Bool.and_eq_true] at h
    intro i hi
    by_cases e : i = n
    · subst e; exact h.2
    · exact ih h.1 i (by omega)
theorem good_valid (x : Nat → Int) (hm : mayB x = true) (id : Int) (side : Nat) (hs : side < 2) : goodB x id = validB x id side := by
  by_cases h : 0 < id ∧ id < 9
  · have hr := (rowOk_iff x id.toNat).1 (mayTo_row x hm id.toNat (by omega))
    have e1 : (goodB x id = true) ↔ ¬ (x (id.toNat * 2) = 0 ∧ x (id.toNat * 2 + 1) = 0) := by
      simp only [goodB, memberB, eq2B, Bool.and_eq_true, decide_eq_true_eq, Bool.not_eq_true', Bool.and_eq_false_iff, decide_eq_false_iff_not]; omega
    rw [Bool.eq_iff_iff, e1, validB_iff]
    rcases (by omega : side = 0 ∨ side = 1) with rfl | rfl
    · simp only [Nat.add_zero]; omega
    · omega
  · rw [Bool.eq_iff_iff, validB_iff]
    simp only [goodB, memberB, Bool.and_eq_true, decide_eq_true_eq]; omega
theorem lsTo_eq (x : Nat → Int) (hm : mayB x = true) (l : List Int) (n : Nat) : lsTo x l n = ⟨toldTo x l n, leastTo x l 0 24 n, leastTo x l 1 40 n⟩ := by
  induction n with
  | zero => rfl
  | succ n ih =>
    rw [lsTo_succ, ih, lsStep, toldTo_succ, leastTo_succ, leastTo_succ, ← good_valid x hm (l.getD n 0) 0 (by omega), ← good_valid x hm (l.getD n 0) 1 (by omega)]
    generalize l.getD n 0 = id
    by_cases hg : goodB x id = true
    · simp only [hg, if_true, imin, Bool.or_true, true_and, Nat.add_zero]
    · simp [hg]
theorem leastF_eq (x : Nat → Int) (l : List Int) (p q : Int) : leastF x l p q = refLeast x l p q := by
  unfold leastF refLeast
  by_cases hm : mayB x = true
  · rw [lsTo_eq x hm]; simp [hm]
  · simp [hm]

set_option maxHeartbeats 2000000 in
theorem law_SizeLeast (x : Nat → Int) (ad : Option Addr) (c : Nat) (l : List Int) (p q : Int) (w : World) (hl : l.length ≤ 9223372036854775807) (hc : RowAt w ad (intCells l)) :
    Calls Try.prog 3 #[.agg (winCells x), .slice ad l.length c, .agg #[.int .i64 p, .int .i64 q]] w fun e w' => e = .returned (.bool true) ∧ Below w.heap.size w w' := by
  have HC := Lib.hid hc
  clear hc
  have hiL := winInfo
  rw [← winL_length x] at hiL
  have HIL := Lib.hid hiL
  have hl1 : ∀ W, RowAt W ad (intCells l) → Calls Try.prog 8 #[.agg (winCells x), .slice ad l.length c, .agg #[.int .i64 p, .int .i64 q]] W fun e w' => e = .returned (.agg #[.int .i64 (refLeast x l p q).1, .int .i64 (refLeast x l p q).2]) ∧ Below W.heap.size W w' := fun W h => by
    have := least_any x ad c l p q W hl h; rwa [leastF_eq] at this
  have hl2 : ∀ W, RowAt W ad (intCells l) → Calls Try.prog 9 #[.agg (winCells x), .slice ad l.length c, .agg #[.int .i64 p, .int .i64 q]] W fun e w' => e = .returned (.agg #[.int .i64 (refLeast x l p q).1, .int .i64 (refLeast x l p q).2]) ∧ Below W.heap.size W w' := fun W h => refLeast_any x ad c l p q W hl h
  unfold winCells at *
  generalize winL x = cs at *
  generalize (refLeast x l p q).1 = r0 at *
  generalize (refLeast x l p q).2 = r1 at *
  have HL1 := Lib.hid hl1
  have HL2 := Lib.hid hl2
  clear hl1 hl2 hiL
  by_cases hn : l.length ≤ 100
  · go_enter Try.func3, Try.ntmps3
    go_wp2_with fail
    refine (known29_any _).mono ?_
    rintro e w1 ⟨rfl, hb1⟩
    have hbox : w1.heap[w.heap.size]? = some (.cells cs.toArray 24 (0, 0)) := (hb1.block _ (by simp; omega)).trans (heap_alloc2_old _ _ _)
    have hlast : w1.heap[w.heap.size + 1]? = some (.cells #[.int .i64 p, .int .i64 q] 22 (0, 0)) := (hb1.block _ (by simp)).trans (heap_alloc2_new _ _ _)
    have HB1 := Lib.hid ((below_alloc2 _ _ _).trans (hb1.mono (by simp; omega)))
    have HC1 := Lib.hid (HC.out.below HB1.out)
    clear hb1
    go_wp2_with fail
    refine wp_region_noPanic ?_
    refine wp_region_held_drew (S := fun W => W.rangeAt w.heap.size 0 cs ∧ W.rangeAt (w.heap.size + 1) 0 [.int .i64 p, .int .i64 q]) (by kernel_rfl) ⟨rangeAt_row hbox, rangeAt_row hlast⟩ (fun hHeld => ?_)
    refine wpAnyH_take (i := 0) rfl (by kernel_rfl) (by kernel_rfl) (by kernel_rfl) (fun _ _ _ h => h) (yieldsIf_load_mid (by rfl) 24 (.tmp 3) rfl w.heap.size 0 rfl cs _ (fun _ h => h.1) Try.underlying24 rfl HIL.out) hHeld ?_
    refine wpAnyH_take (i := 1) (v := .slice ad l.length c) rfl (by kernel_rfl) (by kernel_rfl) (by kernel_rfl) (fun _ _ _ h => h) (Or.inl ⟨by rfl, fun _ _ => rfl⟩) hHeld ?_
    refine wpAnyH_take (i := 2) rfl (by kernel_rfl) (by kernel_rfl) (by kernel_rfl) (fun _ _ _ h => h) (yieldsIf_load_mid (by rfl) 22 (.tmp 5) rfl (w.heap.size + 1) 0 rfl [.int .i64 p, .int .i64 q] _ (fun _ h => h.2) Try.underlying22 rfl pairInfo) hHeld ?_
    refine wpAnyH_take (i := 4) rfl (by kernel_rfl) (by kernel_rfl) (by kernel_rfl) (fun _ _ _ h => h) (yieldsIf_load_mid (by rfl) 24 (.tmp 3) rfl w.heap.size 0 rfl cs _ (fun _ h => h.1) Try.underlying24 rfl HIL.out) hHeld ?_
    refine wpAnyH_take (i := 5) (v := .slice ad l.length c) rfl (by kernel_rfl) (by kernel_rfl) (by kernel_rfl) (fun _ _ _ h => h) (Or.inl ⟨by rfl, fun _ _ => rfl⟩) hHeld ?_
    refine wpAnyH_take (i := 6) rfl (by kernel_rfl) (by kernel_rfl) (by kernel_rfl) (fun _ _ _ h => h) (yieldsIf_load_mid (by rfl) 22 (.tmp 5) rfl (w.heap.size + 1) 0 rfl [.int .i64 p, .int .i64 q] _ (fun _ h => h.2) Try.underlying22 rfl pairInfo) hHeld ?_
    simp only [Act.put]
    refine wpAnyH_ready (rs := [3]) (by kernel_rfl) (by simp) (AllReadyH.cons rfl (fun K hK => ?_) AllReadyH.nil)
    rw [if_pos (by rfl)]
    go_simp
    refine (HL1.out _ (by exact HC1.out)).mono ?_
    rintro e w2 ⟨rfl, hb2⟩
    refine hK.out _ _ ?_ (fun hHeld => ?_)
    · exact ⟨rangeAt_below (w := w1.drew) (rangeAt_row hbox) hb2, rangeAt_below (w := w1.drew) (rangeAt_row hlast) hb2⟩
    clear hK K
    have HB2 := Lib.hid (HB1.out.drew.trans (hb2.mono HB1.out.size))
    have HC2 := Lib.hid (RowAt.below (w := w1.drew) HC1.out hb2)
    refine wpAnyH_ready (rs := [7]) (by kernel_rfl) (by simp) (AllReadyH.cons rfl (fun K hK => ?_) AllReadyH.nil)
    rw [if_pos (by rfl)]
    go_simp
    refine (HL2.out _ (by exact HC2.out)).mono ?_
    rintro e w3 ⟨rfl, hb3⟩
    refine hK.out _ _ ?_ (fun hHeld => ?_)
    · exact ⟨rangeAt_below hHeld.1 hb3, rangeAt_below hHeld.2 hb3⟩
    clear hK K
    have HB3 := Lib.hid (HB2.out.trans (hb3.mono HB2.out.size))
    have heq := eql_pair
    have e1 : eq2B r0 r1 r0 r1 = true := by simp [eq2B]
    refine wpAnyH_ready (rs := [8]) (by kernel_rfl) (by simp) (AllReadyH.cons rfl (fun K hK => ?_) AllReadyH.nil)
    rw [if_pos (by rfl)]
    go_simp
    refine hK.out _ _ hHeld (fun hHeld => ?_)
    clear hK K
    refine wpAnyH_ready (rs := [9]) (by kernel_rfl) (by simp) (AllReadyH.cons rfl (fun K hK => ?_) AllReadyH.nil)
    rw [if_pos (by rfl)]
    go_simp
    refine hK.out _ _ hHeld (fun hHeld => ?_)
    refine wpAnyH_done (by kernel_rfl) ?_ _
    refine NoPanic.normal ?_
    go_wp2_with fail
    go_ret
    exact ⟨rfl, HB3.out⟩
  · go_enter Try.func3, Try.ntmps3
    go_wp2_with fail
    refine (known29_any _).mono ?_
    rintro e w1 ⟨rfl, hb1⟩
    go_wp2_with fail
    go_ret
    exact ⟨rfl, (below_alloc2 _ _ _).trans (hb1.mono (by simp; omega))⟩
end Go.Proofs.Ytcjlkggdcnochaa
