/- Walk of the chapter's rows of size. Conditions: none. -/
import Derived.Test.YtcjlkggdcnochaaSizeE
namespace Go.Proofs.Ytcjlkggdcnochaa
open Go.RowKit

def kX1 : Nat → Int := winSet winZero 3 30 20
def kX2 : Nat → Int := winSet kX1 5 10 100
theorem k_set1 : setOk winZero 3 30 20 = true := by decide
theorem k_set2 : setOk kX1 5 10 100 = true := by decide
theorem k_least1 : leastF kX2 [5, 3] 0 0 = (10, 20) := by decide
theorem k_least2 : leastF kX2 [5] 0 0 = (10, 40) := by decide
theorem k_least3 : leastF kX2 [7] 4 4 = (4, 4) := by decide
set_option maxHeartbeats 2000000 in
theorem known29_any (w : World) :
    Calls Try.prog 7 #[] w fun e w' => e = .returned (.bool true) ∧ Below w.heap.size w w' := by
  have s1 := set_good winZero 3 30 20
  have s2 := set_good kX1 5 10 100
  have hx1 : winSet winZero 3 30 20 = kX1 := rfl
  have hx2 : winSet kX1 5 10 100 = kX2 := rfl
  rw [winZero_cells, hx1] at s1
  rw [hx2] at s2
  have L1 : ∀ W ad c, RowAt W ad (intCells [5, 3]) → Calls Try.prog 8 #[.agg (winCells kX2), .slice ad 2 c, .agg #[.int .i64 0, .int .i64 0]] W fun e w' => e = .returned (.agg #[.int .i64 10, .int .i64 20]) ∧ Below W.heap.size W w' := fun W ad c h => by
    have := least_any kX2 ad c [5, 3] 0 0 W (by decide) h; rwa [k_least1] at this
  have L2 : ∀ W ad c, RowAt W ad (intCells [5]) → Calls Try.prog 8 #[.agg (winCells kX2), .slice ad 1 c, .agg #[.int .i64 0, .int .i64 0]] W fun e w' => e = .returned (.agg #[.int .i64 10, .int .i64 40]) ∧ Below W.heap.size W w' := fun W ad c h => by
    have := least_any kX2 ad c [5] 0 0 W (by decide) h; rwa [k_least2] at this
  have L3 : ∀ W ad c, RowAt W ad (intCells [7]) → Calls Try.prog 8 #[.agg (winCells kX2), .slice ad 1 c, .agg #[.int .i64 4, .int .i64 4]] W fun e w' => e = .returned (.agg #[.int .i64 4, .int .i64 4]) ∧ Below W.heap.size W w' := fun W ad c h => by
    have := least_any kX2 ad c [7] 4 4 W (by decide) h; rwa [k_least3] at this
  have hi1 := winInfo
  rw [← winCells_size kX1] at hi1
  have hi2 := winInfo
  rw [← winCells_size kX2] at hi2
  have HI1 := Lib.hid hi1
  have HI2 := Lib.hid hi2
  have HS1 := Lib.hid (winCells_size kX1)
  have HS2 := Lib.hid (winCells_size kX2)
  have HO1 := Lib.hid (winCells_one kX1)
  have HO2 := Lib.hid (winCells_one kX2)
  clear hi1 hi2 hx1 hx2
  generalize winCells kX1 = c1 at *
  generalize winCells kX2 = c2 at *
  go_enter Try.func7, Try.ntmps7
  go_wp2_with fail
  refine (s1 _ k_set1).mono ?_
  rintro e w1 ⟨rfl, hb1⟩
  go_wp2_with (first
    | (refine wpList_store_row rfl 24 (.tmp 1) (.tmp 7) rfl w1.heap.size c1 rfl rfl 24 _ (heap_alloc_new _ _) HI1.out HS1.out.symm HO1.out ?_)
    | (refine wpList_load_row rfl 24 (.tmp 1) rfl w1.heap.size rfl 24 c1 (0, 0) _ (setRow_heap _ _ _ _ _ _ (heap_alloc_new _ _)) Try.underlying24 rfl HI1.out ?_))
  refine (s2 _ k_set2).mono ?_
  rintro e w2 ⟨rfl, hb2⟩
  have hz2 : w2.heap[w1.heap.size]? = some (.cells c1 24 (0, 0)) := (hb2.block _ (by simp)).trans (setRow_heap _ _ _ _ _ _ (heap_alloc_new _ _))
  have hbb : Below w.heap.size w w2 := (below_setRow (hb1.alloc hb1.size _) hb1.size _).trans (hb2.mono (by have := hb1.size; simp; omega))
  have HZ2 := Lib.hid hz2
  have HBB := Lib.hid hbb
  have hs1 := hb1.size
  clear hz2 hbb hb1 hb2
  go_wp2_with (first
    | (refine wpList_store_row rfl 24 (.tmp 1) (.tmp 12) rfl w1.heap.size c2 rfl rfl 24 _ HZ2.out HI2.out (by rw [HS1.out, HS2.out]) HO2.out ?_)
    | (refine wpList_load_row_g rfl 24 (.tmp 1) rfl w1.heap.size rfl 24 c2 (0, 0) _ (setRow_heap _ _ _ _ _ _ HZ2.out) Try.underlying24 rfl HI2.out ?_))
  have h3 : (w2.setRow w1.heap.size c2).heap[w1.heap.size]? = some (.cells c2 24 (0, 0)) := setRow_heap _ _ _ _ _ _ HZ2.out
  have hb3 : Below w.heap.size w (w2.setRow w1.heap.size c2) := below_setRow HBB.out hs1 _
  have hs3 : (w2.setRow w1.heap.size c2).heap.size = w2.heap.size := size_setRow _ _ _
  have hlt : w1.heap.size < w2.heap.size := (Array.getElem?_eq_some_iff.1 HZ2.out).1
  refine (L1 _ _ _ (by exact rowAt_at _ (intCells [5, 3]) _ _ hs3.symm)).mono ?_
  generalize w2.setRow w1.heap.size c2 = w3 at *
  rintro e w4 ⟨rfl, hb4⟩
  have H4 := Lib.hid (show w4.heap[w1.heap.size]? = _ from (hb4.block _ (by simp; omega)).trans ((Below.heap_alloc _ _ _ (by omega)).trans h3))
  have HB4 := Lib.hid ((hb3.alloc (by have := hb3.size; omega) _).trans (hb4.mono (by have := hb3.size; simp; omega)))
  have hs4 := hb4.size
  simp only [World.size_alloc] at hs4
  clear hb4 h3 hb3
  have heq := eql_pair
  have e1 : eq2B 10 20 10 20 = true := by decide
  have e2 : eq2B 10 40 10 40 = true := by decide
  have e3 : eq2B 4 4 4 4 = true := by decide
  go_wp2_with (first
    | (refine wpList_load_row_g rfl 24 (.tmp 1) rfl w1.heap.size rfl 24 c2 (0, 0) _ H4.out Try.underlying24 rfl HI2.out ?_))
  refine (L2 _ _ _ (by exact rowAt_at _ (intCells [5]) _ _ rfl)).mono ?_
  rintro e w5 ⟨rfl, hb5⟩
  have H5 := Lib.hid (show w5.heap[w1.heap.size]? = _ from (hb5.block _ (by simp; omega)).trans ((Below.heap_alloc _ _ _ (by omega)).trans H4.out))
  have HB5 := Lib.hid ((HB4.out.alloc HB4.out.size _).trans (hb5.mono (by have := HB4.out.size; simp; omega)))
  clear hb5
  go_wp2_with (first
    | (refine wpList_load_row_g rfl 24 (.tmp 1) rfl w1.heap.size rfl 24 c2 (0, 0) _ H5.out Try.underlying24 rfl HI2.out ?_))
  refine (L3 _ _ _ (by exact rowAt_at _ (intCells [7]) _ _ rfl)).mono ?_
  rintro e w6 ⟨rfl, hb6⟩
  have HB6 := Lib.hid ((HB5.out.alloc HB5.out.size _).trans (hb6.mono (by have := HB5.out.size; simp; omega)))
  clear hb6
  go_wp2_with fail
  go_ret
  exact ⟨rfl, HB6.out⟩
end Go.Proofs.Ytcjlkggdcnochaa
