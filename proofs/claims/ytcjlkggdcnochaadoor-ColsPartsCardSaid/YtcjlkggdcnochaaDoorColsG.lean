/- Walk of the chapter's rows of cols, and of the law ColsOf. Conditions: the table lies as laid. -/
import Derived.Test.YtcjlkggdcnochaaDoorColsF
namespace Go.Proofs.YtcjlkggdcnochaaDoor
open Go.RowKit

theorem k13_cut : IsCut [20013, 769, 97] 2 2 := ⟨by decide, fun j hj => by rcases (by omega : j = 0 ∨ j = 1) with rfl | rfl <;> decide, .inr (by decide)⟩
theorem of_num {c v : Int} (h : ofR c = v) (w : World) (ht : Tab w) : Calls Tryd.prog 9 #[.int .i32 c] w fun e w' => e = .returned (.int .i64 v) ∧ Below w.heap.size w w' := by
  have := of_any c w ht; rwa [h] at this
theorem drewN_heap (w : World) (n : Nat) : (w.drewN n).heap = w.heap := rfl

theorem below_dr {B : Nat} {a w : World} (h : Below B a w) (n : Nat) : Below B a (w.drewN n) := ⟨h.os, h.tape, h.output, h.size, h.block⟩

set_option maxHeartbeats 2000000 in
theorem known13_any (w : World) (ht : Tab w) :
    Calls Tryd.prog 8 #[] w fun e w' => e = .returned (.bool true) ∧ Below w.heap.size w w' := by
  have HT := Lib.hid ht
  clear ht
  go_enter Tryd.func8, Tryd.ntmps8
  go_wp2_with fail
  have hb0 : Below w.heap.size w (w.alloc (.cells (runeCells [20013, 769, 97]).toArray 21)) := (Below.refl _ _).alloc (Nat.le_refl _) _
  refine (cut_any _ 3 [20013, 769, 97] 2 _ (HT.out.below hb0) (by simp) (by simp) (by omega) (by exact rowAt_at w (runeCells [20013, 769, 97]) 21 _ rfl) (by simp) (by omega) (by omega)).mono ?_
  rintro e w1 ⟨k, v1, v2, hk, rfl, ho1, ho2, hb1⟩
  obtain rfl := hk.unique k13_cut
  obtain ⟨a1, c1, rfl, hc1, hr1⟩ := rowAt_of_owns ho1
  obtain ⟨a2, c2, rfl, hc2, hr2⟩ := rowAt_of_owns ho2
  have HB1 := Lib.hid (hb0.trans (hb1.mono (by simp)))
  have HT1 := Lib.hid (HT.out.below HB1.out)
  have HR1 := Lib.hid hr1
  have HR2 := Lib.hid hr2
  clear ho1 ho2 hb1 hr1 hr2 hb0 hk
  go_wp2_with fail
  refine (of_num (show ofR 97 = 1 by decide) _ HT1.out).mono ?_
  rintro e w2 ⟨rfl, hb2⟩
  have HT2 := Lib.hid (HT1.out.below hb2)
  have HB2 := Lib.hid (HB1.out.trans (hb2.mono HB1.out.size))
  have HR12 := Lib.hid (HR1.out.below hb2)
  have HR22 := Lib.hid (HR2.out.below hb2)
  clear hb2
  go_wp2_with fail
  refine (of_num (show ofR 769 = 0 by decide) _ HT2.out).mono ?_
  rintro e w3 ⟨rfl, hb3⟩
  have HT3 := Lib.hid (HT2.out.below hb3)
  have HB3 := Lib.hid (HB2.out.trans (hb3.mono HB2.out.size))
  have HR13 := Lib.hid (HR12.out.below hb3)
  have HR23 := Lib.hid (HR22.out.below hb3)
  clear hb3
  go_wp2_with fail
  refine (of_num (show ofR 20013 = 2 by decide) _ HT3.out).mono ?_
  rintro e w4 ⟨rfl, hb4⟩
  have HT4 := Lib.hid (HT3.out.below hb4)
  have HB4 := Lib.hid (HB3.out.trans (hb4.mono HB3.out.size))
  have HR14 := Lib.hid (HR13.out.below hb4)
  have HR24 := Lib.hid (HR23.out.below hb4)
  clear hb4
  go_wp2_with fail
  refine (of_num (show ofR 7 = -1 by decide) _ HT4.out).mono ?_
  rintro e w5 ⟨rfl, hb5⟩
  have HB5 := Lib.hid (HB4.out.trans (hb5.mono HB4.out.size))
  have HR15 := Lib.hid ((HR14.out.below hb5).alloc (.cells (runeCells [20013, 769]).toArray 21))
  have HR25 := Lib.hid ((HR24.out.below hb5).alloc (.cells (runeCells [20013, 769]).toArray 21))
  clear hb5
  go_wp2_with fail
  refine (refSame_any a1 _ c1 2 [20013, 769] [20013, 769] _ (by simp) (by simp) (by exact HR15.out) (by exact rowAt_at w5 (runeCells [20013, 769]) 21 _ rfl)).mono ?_
  rintro e w6 ⟨rfl, n6, rfl⟩
  have hs1 : sameB [20013, 769] [20013, 769] = true := by decide
  rw [hs1]
  go_wp2_with fail
  refine (refSame_any a2 _ c2 1 [97] [97] _ (by simp) (by simp) (by exact HR25.out.alloc _) (by exact rowAt_at (w5.alloc (.cells (runeCells [20013, 769]).toArray 21)) (runeCells [97]) 21 _ (by simp))).mono ?_
  rintro e w7 ⟨rfl, n7, rfl⟩
  have hs2 : sameB [97] [97] = true := by decide
  rw [hs2]
  go_wp2_with fail
  go_ret
  exact ⟨rfl, below_dr ((below_dr (HB5.out.alloc HB5.out.size _) _).alloc (by have := HB5.out.size; simp; omega) _) _⟩

set_option maxHeartbeats 2000000 in
theorem law_ColsOf (c : Int) (w : World) (ht : Tab w) :
    Calls Tryd.prog 3 #[.int .i32 c] w fun e w' => e = .returned (.bool true) ∧ Below w.heap.size w w' := by
  have HT := Lib.hid ht
  clear ht
  by_cases h1 : 1073741824 < c ∨ c < -1073741824
  · have hcase : 1073741824 < c ∨ (c ≤ 1073741824 ∧ c < -1073741824) := by omega
    clear h1
    rcases hcase with h | ⟨h, h'⟩
    all_goals
      go_enter Tryd.func3, Tryd.ntmps3
      go_wp2_with fail
      refine (known13_any _ HT.out).mono ?_
      rintro e w1 ⟨rfl, hb1⟩
      have HB1 := Lib.hid hb1
      have HT1 := Lib.hid (HT.out.below hb1)
      clear hb1
      go_wp2_with fail
      refine (of_any _ _ HT1.out).mono ?_
      rintro e w2 ⟨rfl, hb2⟩
      have HB2 := Lib.hid (HB1.out.trans (hb2.mono HB1.out.size))
      clear hb2
      go_wp2_with (go_at_call 10; refine (refOf_any _ _).mono ?_; rintro e w' ⟨rfl, rfl⟩)
      go_ret
      exact ⟨rfl, HB2.out⟩
  · have h2 : c ≤ 1073741824 := by omega
    have h3 : -1073741824 ≤ c := by omega
    clear h1
    go_enter Tryd.func3, Tryd.ntmps3
    go_wp2_with fail
    refine (known13_any _ HT.out).mono ?_
    rintro e w1 ⟨rfl, hb1⟩
    have HB1 := Lib.hid hb1
    have HT1 := Lib.hid (HT.out.below hb1)
    clear hb1
    go_wp2_with fail
    refine (of_any _ _ HT1.out).mono ?_
    rintro e w2 ⟨rfl, hb2⟩
    have HB2 := Lib.hid (HB1.out.trans (hb2.mono HB1.out.size))
    have HT2 := Lib.hid (HT1.out.below hb2)
    clear hb2
    go_wp2_with (go_at_call 10; refine (refOf_any _ _).mono ?_; rintro e w' ⟨rfl, rfl⟩)
    refine (of_any _ _ HT2.out).mono ?_
    rintro e w3 ⟨rfl, hb3⟩
    have HB3 := Lib.hid (HB2.out.trans (hb3.mono HB2.out.size))
    have HT3 := Lib.hid (HT2.out.below hb3)
    clear hb3
    go_wp2_with (go_at_call 10; refine (refOf_any _ _).mono ?_; rintro e w' ⟨rfl, rfl⟩)
    refine (of_any _ _ HT3.out).mono ?_
    rintro e w4 ⟨rfl, hb4⟩
    have HB4 := Lib.hid (HB3.out.trans (hb4.mono HB3.out.size))
    clear hb4
    go_wp2_with (go_at_call 10; refine (refOf_any _ _).mono ?_; rintro e w' ⟨rfl, rfl⟩)
    go_ret
    exact ⟨rfl, HB4.out⟩
end Go.Proofs.YtcjlkggdcnochaaDoor
