/- Walks of package size: Set, Clear. Conditions: none. -/
import Derived.Test.YtcjlkggdcnochaaSizeA
import Derived.Deep.MidRow
namespace Go.Proofs.Ytcjlkggdcnochaa
open Go.RowKit

theorem winInfo : (Try.prog.info? 24).map (·.size) = some 18 := by kernel_rfl

def setOk (x : Nat → Int) (id rows cols : Int) : Bool := mayB x && (memberB id && (sideB rows && sideB cols))
def winSet (x : Nat → Int) (id a b : Int) : Nat → Int := fun j => if j = id.toNat * 2 then a else if j = id.toNat * 2 + 1 then b else x j
def winZero : Nat → Int := fun _ => 0

theorem winZero_cells : winCells winZero = #[.int .i64 0, .int .i64 0, .int .i64 0, .int .i64 0, .int .i64 0, .int .i64 0, .int .i64 0, .int .i64 0, .int .i64 0, .int .i64 0, .int .i64 0, .int .i64 0, .int .i64 0, .int .i64 0, .int .i64 0, .int .i64 0, .int .i64 0, .int .i64 0] := rfl
theorem winCells_one (x : Nat → Int) : (winCells x).all (·.oneCell') = true := by
  rw [Array.all_eq_true_iff_forall_mem]; intro v hv; simp [winCells, winL] at hv; obtain ⟨j, _, rfl⟩ := hv; rfl

theorem winCells_set (x : Nat → Int) (id a b : Int) : ((winCells x).setIfInBounds (id.toNat * 2) (.int .i64 a)).setIfInBounds (id.toNat * 2 + 1) (.int .i64 b) = winCells (winSet x id a b) := by
  apply Array.ext
  · simp [winCells_size]
  · intro j h1 h2
    have h3 := h2
    rw [winCells_size] at h3
    have h4 : j < (winCells x).size := by rw [winCells_size]; exact h3
    rw [Array.getElem_setIfInBounds (by simpa using h4), Array.getElem_setIfInBounds h4]
    simp only [winCells, winL, List.getElem_toArray, List.getElem_map, List.getElem_range, winSet]
    by_cases e1 : id.toNat * 2 + 1 = j
    · rw [if_pos e1, if_neg (by omega), if_pos e1.symm]
    · rw [if_neg e1]
      by_cases e2 : id.toNat * 2 = j
      · rw [if_pos e2, if_pos e2.symm]
      · rw [if_neg e2, if_neg (by omega), if_neg (by omega)]

set_option maxHeartbeats 2000000 in
theorem set_bad (x : Nat → Int) (id rows cols : Int) (w : World) (h : setOk x id rows cols = false) :
    Calls Try.prog 11 #[.agg (winCells x), .int .i64 id, .int .i64 rows, .int .i64 cols] w fun e w' =>
      e = .returned (.tuple #[.agg (winCells winZero), .int .i64 2]) ∧ Below w.heap.size w w' := by
  have HS := Lib.hid (winCells_size x)
  have hi := winInfo
  have HI0 := Lib.hid hi
  rw [← HS.out] at hi
  have HI := Lib.hid hi
  clear hi
  have hmay := may_any x
  unfold setOk at h
  generalize winCells x = cs at *
  have hcase : mayB x = false ∨ (mayB x = true ∧ memberB id = false) ∨ (mayB x = true ∧ memberB id = true ∧ sideB rows = false) ∨ (mayB x = true ∧ memberB id = true ∧ sideB rows = true ∧ sideB cols = false) := by
    revert h; cases mayB x <;> cases memberB id <;> cases sideB rows <;> cases sideB cols <;> simp
  clear h
  rcases hcase with h1 | ⟨h1, h2⟩ | ⟨h1, h2, h3⟩ | ⟨h1, h2, h3, h4⟩
  all_goals
    go_enter Try.func11, Try.ntmps11
    go_wp2_with (first
      | (refine wpList_load_row rfl 24 (.tmp 4) rfl w.heap.size rfl 24 cs (0, 0) _ (heap_alloc2_old _ _ _) Try.underlying24 rfl HI.out ?_)
      | (go_at_call 10; refine (hmay _).mono ?_; rintro e w1 ⟨rfl, hb⟩; have HB := Lib.hid hb; clear hb; have HZ := Lib.hid (show w1.heap[w.heap.size + 1]? = _ from (HB.out.block _ (by simp)).trans (heap_alloc2_new _ _ _)))
      | (go_at_call 14; refine (member_any _ _).mono ?_; rintro e w' ⟨rfl, rfl⟩)
      | (go_at_call 17; refine (side_any _ _).mono ?_; rintro e w' ⟨rfl, rfl⟩)
      | (refine wpList_store_row rfl 24 (.tmp 8) (.tmp 28) rfl (w.heap.size + 1) (winCells winZero) rfl rfl 24 _ HZ.out HI0.out rfl (winCells_one _) ?_))
    refine bodyPost_ret (results_cell_tmp rfl _ _ (w.heap.size + 1) 24 (winCells winZero) (0, 0) _ rfl (setRow_heap _ _ _ _ _ _ HZ.out) Try.underlying24 rfl HI0.out) rfl ⟨rfl, ?_⟩
    refine below_setRow ((((Below.refl _ _).alloc (Nat.le_refl _) _).alloc (by simp) _).trans (HB.out.mono (by simp; omega))) (by omega) _

set_option maxHeartbeats 2000000 in
theorem set_good (x : Nat → Int) (id rows cols : Int) (w : World) (h : setOk x id rows cols = true) :
    Calls Try.prog 11 #[.agg (winCells x), .int .i64 id, .int .i64 rows, .int .i64 cols] w fun e w' =>
      e = .returned (.tuple #[.agg (winCells (winSet x id rows cols)), .int .i64 0]) ∧ Below w.heap.size w w' := by
  have HS := Lib.hid (winCells_size x)
  have HG := Lib.hid (winCells_get x)
  have HW := Lib.hid (winCells_set x id rows cols)
  have hi := winInfo
  have HI0 := Lib.hid hi
  rw [← HS.out] at hi
  have HI := Lib.hid hi
  clear hi
  have hmay := may_any x
  have HWS := Lib.hid (winCells_size (winSet x id rows cols))
  have HWO := Lib.hid (winCells_one (winSet x id rows cols))
  generalize winCells x = cs at *
  generalize winCells (winSet x id rows cols) = cs' at *
  simp only [setOk, Bool.and_eq_true] at h
  obtain ⟨h1, h2, h3, h4⟩ := h
  have hid1 : 1 ≤ id ∧ id ≤ 8 := by simpa [memberB] using h2
  obtain ⟨hi1, hi8⟩ := hid1
  go_enter Try.func11, Try.ntmps11
  have HIs := Lib.hid (show (Try.prog.info? 24).map (·.size) = some cs'.size by rw [HWS.out]; exact HI0.out)
  go_wp2_with (first
      | (refine wpList_load_row rfl 24 (.tmp 4) rfl w.heap.size rfl 24 cs' (0, 0) _ HZ2.out Try.underlying24 rfl HIs.out ?_)
      | (refine wpList_load_row rfl 24 (.tmp 4) rfl w.heap.size rfl 24 cs (0, 0) _ (heap_alloc2_old _ _ _) Try.underlying24 rfl HI.out ?_)
      | (refine wpList_store_row rfl 24 (.tmp 8) (.tmp 34) rfl (w.heap.size + 1) cs' rfl rfl 24 _ HZ3.out HIs.out HWS.out.symm HWO.out ?_)
      | (go_at_call 10; refine (hmay _).mono ?_; rintro e w1 ⟨rfl, hb⟩; have HB := Lib.hid hb; clear hb; have HZ := Lib.hid (show w1.heap[w.heap.size + 1]? = _ from (HB.out.block _ (by simp)).trans (heap_alloc2_new _ _ _)); have hz0 := (show w1.heap[w.heap.size]? = _ from (HB.out.block _ (by simp; omega)).trans (heap_alloc2_old _ _ _)); have hf0 := fun j => frozen_row w1 w.heap.size j _ _ hz0; have hc0 := (cell_of_row w1 w.heap.size (id.toNat * 2) _ _ _ hz0).trans (HG.out _ (by omega)); have hc1 := (cell_of_row w1 w.heap.size (id.toNat * 2 + 1) _ _ _ hz0).trans (HG.out _ (by omega)); have HZ2 := Lib.hid (heap_setCell_same _ w.heap.size (id.toNat * 2 + 1) _ _ (.int .i64 cols) (heap_setCell_same w1 w.heap.size (id.toNat * 2) _ _ (.int .i64 rows) hz0)); rw [HW.out] at HZ2; have HZ3 := Lib.hid ((heap_setCell_other (w1.setCell ⟨w.heap.size, id.toNat * 2, none⟩ (.int .i64 rows)) ⟨w.heap.size, id.toNat * 2 + 1, none⟩ (w.heap.size + 1) (.int .i64 cols) (by simp)).trans ((heap_setCell_other w1 ⟨w.heap.size, id.toNat * 2, none⟩ (w.heap.size + 1) (.int .i64 rows) (by simp)).trans HZ.out)); clear hz0)
      | (go_at_call 14; refine (member_any _ _).mono ?_; rintro e w' ⟨rfl, rfl⟩)
      | (go_at_call 17; refine (side_any _ _).mono ?_; rintro e w' ⟨rfl, rfl⟩))
  refine bodyPost_ret (results_cell_tmp rfl _ _ (w.heap.size + 1) 24 cs' (0, 0) _ rfl (setRow_heap _ _ _ _ _ _ HZ3.out) Try.underlying24 rfl HIs.out) rfl ⟨rfl, ?_⟩
  exact below_setRow ((((((Below.refl _ _).alloc (Nat.le_refl _) _).alloc (by simp) _).trans (HB.out.mono (by simp; omega))).setCell (Nat.le_refl _) _).setCell (Nat.le_refl _) _) (by omega) _

theorem set_any (x : Nat → Int) (id rows cols : Int) (w : World) :
    Calls Try.prog 11 #[.agg (winCells x), .int .i64 id, .int .i64 rows, .int .i64 cols] w fun e w' =>
      e = .returned (.tuple #[.agg (winCells (if setOk x id rows cols = true then winSet x id rows cols else winZero)), .int .i64 (if setOk x id rows cols = true then 0 else 2)]) ∧ Below w.heap.size w w' := by
  by_cases h : setOk x id rows cols = true
  · simp only [h, if_true]; exact set_good x id rows cols w h
  · simp only [h]; exact set_bad x id rows cols w (by simpa using h)
end Go.Proofs.Ytcjlkggdcnochaa
