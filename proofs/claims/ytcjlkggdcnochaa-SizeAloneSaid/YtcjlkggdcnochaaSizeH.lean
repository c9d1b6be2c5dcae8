/- Walk of size.Clear; '==' of windows. Conditions: none. -/
import Derived.Test.YtcjlkggdcnochaaSizeG
namespace Go.Proofs.Ytcjlkggdcnochaa
open Go.RowKit

def clearOk (x : Nat → Int) (id : Int) : Bool := mayB x && memberB id

set_option maxHeartbeats 2000000 in
theorem clear_bad (x : Nat → Int) (id : Int) (w : World) (h : clearOk x id = false) :
    Calls Try.prog 12 #[.agg (winCells x), .int .i64 id] w fun e w' =>
      e = .returned (.tuple #[.agg (winCells winZero), .int .i64 2]) ∧ Below w.heap.size w w' := by
  have HS := Lib.hid (winCells_size x)
  have hi := winInfo
  have HI0 := Lib.hid hi
  rw [← HS.out] at hi
  have HI := Lib.hid hi
  clear hi
  have hmay := may_any x
  unfold clearOk at h
  generalize winCells x = cs at *
  have hcase : mayB x = false ∨ (mayB x = true ∧ memberB id = false) := by
    revert h; cases mayB x <;> cases memberB id <;> simp
  clear h
  rcases hcase with h1 | ⟨h1, h2⟩
  all_goals
    go_enter Try.func12, Try.ntmps12
    go_wp2_with (first
      | (refine wpList_load_row rfl 24 (.tmp 2) rfl w.heap.size rfl 24 cs (0, 0) _ (heap_alloc2_old _ _ _) Try.underlying24 rfl HI.out ?_)
      | (go_at_call 10; refine (hmay _).mono ?_; rintro e w1 ⟨rfl, hb⟩; have HB := Lib.hid hb; clear hb; have HZ := Lib.hid (show w1.heap[w.heap.size + 1]? = _ from (HB.out.block _ (by simp)).trans (heap_alloc2_new _ _ _)))
      | (go_at_call 14; refine (member_any _ _).mono ?_; rintro e w' ⟨rfl, rfl⟩)
      | (refine wpList_store_row rfl 24 (.tmp 4) (.tmp 14) rfl (w.heap.size + 1) (winCells winZero) rfl rfl 24 _ HZ.out HI0.out rfl (winCells_one _) ?_))
    refine bodyPost_ret (results_cell_tmp rfl _ _ (w.heap.size + 1) 24 (winCells winZero) (0, 0) _ rfl (setRow_heap _ _ _ _ _ _ HZ.out) Try.underlying24 rfl HI0.out) rfl ⟨rfl, ?_⟩
    refine below_setRow ((((Below.refl _ _).alloc (Nat.le_refl _) _).alloc (by simp) _).trans (HB.out.mono (by simp; omega))) (by omega) _

set_option maxHeartbeats 2000000 in
theorem clear_good (x : Nat → Int) (id : Int) (w : World) (h : clearOk x id = true) :
    Calls Try.prog 12 #[.agg (winCells x), .int .i64 id]  w fun e w' =>
      e = .returned (.tuple #[.agg (winCells (winSet x id 0 0)), .int .i64 0]) ∧ Below w.heap.size w w' := by
  have HS := Lib.hid (winCells_size x)
  have HG := Lib.hid (winCells_get x)
  have HW := Lib.hid (winCells_set x id 0 0)
  have hi := winInfo
  have HI0 := Lib.hid hi
  rw [← HS.out] at hi
  have HI := Lib.hid hi
  clear hi
  have hmay := may_any x
  have HWS := Lib.hid (winCells_size (winSet x id 0 0))
  have HWO := Lib.hid (winCells_one (winSet x id 0 0))
  generalize winCells x = cs at *
  generalize winCells (winSet x id 0 0) = cs' at *
  simp only [clearOk, Bool.and_eq_true] at h
  obtain ⟨h1, h2⟩ := h
  have hid1 : 1 ≤ id ∧ id ≤ 8 := by simpa [memberB] using h2
  obtain ⟨hi1, hi8⟩ := hid1
  go_enter Try.func12, Try.ntmps12
  have HIs := Lib.hid (show (Try.prog.info? 24).map (·.size) = some cs'.size by rw [HWS.out]; exact HI0.out)
  go_wp2_with (first
      | (refine wpList_load_row rfl 24 (.tmp 2) rfl w.heap.size rfl 24 cs' (0, 0) _ HZ2.out Try.underlying24 rfl HIs.out ?_)
      | (refine wpList_load_row rfl 24 (.tmp 2) rfl w.heap.size rfl 24 cs (0, 0) _ (heap_alloc2_old _ _ _) Try.underlying24 rfl HI.out ?_)
      | (refine wpList_store_row rfl 24 (.tmp 4) (.tmp 18) rfl (w.heap.size + 1) cs' rfl rfl 24 _ HZ3.out HIs.out HWS.out.symm HWO.out ?_)
      | (go_at_call 10; refine (hmay _).mono ?_; rintro e w1 ⟨rfl, hb⟩; have HB := Lib.hid hb; clear hb; have HZ := Lib.hid (show w1.heap[w.heap.size + 1]? = _ from (HB.out.block _ (by simp)).trans (heap_alloc2_new _ _ _)); have hz0 := (show w1.heap[w.heap.size]? = _ from (HB.out.block _ (by simp; omega)).trans (heap_alloc2_old _ _ _)); have hf0 := fun j => frozen_row w1 w.heap.size j _ _ hz0; have hc0 := (cell_of_row w1 w.heap.size (id.toNat * 2) _ _ _ hz0).trans (HG.out _ (by omega)); have hc1 := (cell_of_row w1 w.heap.size (id.toNat * 2 + 1) _ _ _ hz0).trans (HG.out _ (by omega)); have HZ2 := Lib.hid (heap_setCell_same _ w.heap.size (id.toNat * 2 + 1) _ _ (.int .i64 0) (heap_setCell_same w1 w.heap.size (id.toNat * 2) _ _ (.int .i64 0) hz0)); rw [HW.out] at HZ2; have HZ3 := Lib.hid ((heap_setCell_other (w1.setCell ⟨w.heap.size, id.toNat * 2, none⟩ (.int .i64 0)) ⟨w.heap.size, id.toNat * 2 + 1, none⟩ (w.heap.size + 1) (.int .i64 0) (by simp)).trans ((heap_setCell_other w1 ⟨w.heap.size, id.toNat * 2, none⟩ (w.heap.size + 1) (.int .i64 0) (by simp)).trans HZ.out)); clear hz0)
      | (go_at_call 14; refine (member_any _ _).mono ?_; rintro e w' ⟨rfl, rfl⟩))
  refine bodyPost_ret (results_cell_tmp rfl _ _ (w.heap.size + 1) 24 cs' (0, 0) _ rfl (setRow_heap _ _ _ _ _ _ HZ3.out) Try.underlying24 rfl HIs.out) rfl ⟨rfl, ?_⟩
  exact below_setRow ((((((Below.refl _ _).alloc (Nat.le_refl _) _).alloc (by simp) _).trans (HB.out.mono (by simp; omega))).setCell (Nat.le_refl _) _).setCell (Nat.le_refl _) _) (by omega) _


theorem part_win (x : Nat → Int) (i : Nat) (h : i < 9) (w : World) : (part 22 (winCells x) (i * 2)).run Try.prog w = .ok (.agg #[.int .i64 (x (i * 2)), .int .i64 (x (i * 2 + 1))]) w := by
  have he : (winCells x).extract (i * 2) (i * 2 + 2) = #[.int .i64 (x (i * 2)), .int .i64 (x (i * 2 + 1))] := by
    apply Array.ext
    · simp [winCells_size]; omega
    · intro j h1 h2
      simp at h2
      rcases (by omega : j = 0 ∨ j = 1) with rfl | rfl
      · simp [winCells, winL]
      · simp [winCells, winL]
  simp [part, Try.isAgg22, Try.sizeOf22, he]
theorem equal_pair (a b c d : Int) (w : World) : (Op.equalIn 9999 22 (.agg #[.int .i64 a, .int .i64 b]) (.agg #[.int .i64 c, .int .i64 d])).run Try.prog w = .ok (eq2B a b c d) w := by
  rw [run_equalIn_array w 9998 22 3 2 1 _ _ Try.underlying22 (Try.sizeOf3 w)]
  simp only [eqElems]
  simp [part, Try.isAgg3, run_equalIn_int w _ 3 .i64 .i64 _ _ Try.underlying3, Sem.run_ite, eq2B]
  by_cases h1 : a = c <;> by_cases h2 : b = d <;> simp [h1, h2]
theorem eqElems_win (x : Nat → Int) (w : World) : ∀ (k i : Nat), i + k ≤ 9 → (eqElems 9999 22 2 (winCells x) (winCells x) k i).run Try.prog w = .ok true w
  | 0, _, _ => by simp [eqElems]
  | k + 1, i, h => by
    have e1 : eq2B (x (i * 2)) (x (i * 2 + 1)) (x (i * 2)) (x (i * 2 + 1)) = true := by simp [eq2B]
    simp only [eqElems, Sem.run_bind, part_win x i (by omega), Result.andThen_ok, equal_pair, e1, Sem.run_ite, Bool.not_true, Bool.false_eq_true, if_false]
    exact eqElems_win x w k (i + 1) (by omega)
theorem eql_win (x : Nat → Int) (w : World) : (binOp .eql 24 (.agg (winCells x)) (.agg (winCells x))).run Try.prog w = .ok (.bool true) w := by
  rw [run_eql_struct, run_equalIn_array w 9999 24 22 9 2 _ _ Try.underlying24 (Try.sizeOf22 w), eqElems_win x w 9 0 (by omega)]
  rfl
theorem neq_win (x : Nat → Int) (w : World) : (binOp .neq 24 (.agg (winCells x)) (.agg (winCells x))).run Try.prog w = .ok (.bool false) w := by
  rw [run_neq_struct, run_equalIn_array w 9999 24 22 9 2 _ _ Try.underlying24 (Try.sizeOf22 w), eqElems_win x w 9 0 (by omega)]
  rfl
end Go.Proofs.Ytcjlkggdcnochaa
