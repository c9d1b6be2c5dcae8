/- Walk of the reference of size: Least. Conditions: the list may be read. -/
import Derived.Test.YtcjlkggdcnochaaSizeC
import Derived.Deep.RegionHeld3
namespace Go.Proofs.Ytcjlkggdcnochaa
open Go.RowKit

def toldTo (x : Nat → Int) (l : List Int) : Nat → Bool
  | 0 => false
  | n + 1 => toldTo x l n || validB x (l.getD n 0) 0
theorem toldTo_succ (x : Nat → Int) (l : List Int) (n : Nat) : toldTo x l (n + 1) = (toldTo x l n || validB x (l.getD n 0) 0) := rfl

def refLeast (x : Nat → Int) (l : List Int) (p q : Int) : Int × Int := if toldTo x l l.length = true ∧ mayB x = true then (leastTo x l 0 24 l.length, leastTo x l 1 40 l.length) else (p, q)

theorem pairInfo : (Try.prog.info? 22).map (·.size) = some 2 := by kernel_rfl

set_option maxHeartbeats 1000000 in
theorem refLeast_any (x : Nat → Int) (ad : Option Addr) (c : Nat) (l : List Int) (p q : Int) (w : World) (hl : l.length ≤ 9223372036854775807) (hc : RowAt w ad (intCells l)) :
    Calls Try.prog 9 #[.agg (winCells x), .slice ad l.length c, .agg #[.int .i64 p, .int .i64 q]] w fun e w' => e = .returned (.agg #[.int .i64 (refLeast x l p q).1, .int .i64 (refLeast x l p q).2]) ∧ Below w.heap.size w w' := by
  have HG := Lib.hid (winCells_get x)
  have HC := Lib.hid hc
  clear hc
  have hiL := winInfo
  rw [← winL_length x] at hiL
  have HIL := Lib.hid hiL
  clear hiL
  have hmay := refMay_any x
  have hl0 : ∀ W, RowAt W ad (intCells l) → Calls Try.prog 15 #[.agg (winCells x), .slice ad l.length c, .int .i64 0, .int .i64 24] W fun e w' => e = .returned (.int .i64 (leastTo x l 0 24 l.length)) ∧ w' = W.alloc (.cells (winCells x) 24) := fun W h => refleast_any x ad c l 0 24 W (by omega) hl h
  have hl1 : ∀ W, RowAt W ad (intCells l) → Calls Try.prog 15 #[.agg (winCells x), .slice ad l.length c, .int .i64 1, .int .i64 40] W fun e w' => e = .returned (.int .i64 (leastTo x l 1 40 l.length)) ∧ w' = W.alloc (.cells (winCells x) 24) := fun W h => refleast_any x ad c l 1 40 W (by omega) hl h
  unfold winCells at *
  generalize winL x = cs at *
  have HI := Lib.hid (show (Try.prog.info? 24).map (·.size) = some cs.toArray.size from HIL.out)
  go_enter Try.func9, Try.ntmps9
  go_wp2_with fail
  go_loop [7, 8] (fun t i => ∃ k : Nat, k ≤ l.length ∧ i = .int .i64 k ∧ t = .bool (toldTo x l k)) (fun _ i => l.length - (intOf i).toNat)
  case atStart => exact ⟨0, by omega, rfl, rfl⟩
  case round =>
    obtain ⟨k, hk, rfl, rfl⟩ := hrel
    by_cases hlt : k < l.length
    · have hB := heap_alloc2_old w (.cells cs.toArray 24) (.cells #[.int .i64 p, .int .i64 q] 22)
      obtain ⟨b, off, rfl, hlb, hcell⟩ := HC.out.int hlt
      have hlc : (((w.alloc (.cells cs.toArray 24)).alloc (.cells #[.int .i64 p, .int .i64 q] 22)).alloc (.cells #[.int .i64 0, .int .i64 0] 22)).cell? ⟨b, off + k, none⟩ = some (.int .i64 (l.getD k 0)) := ((((Below.refl w.heap.size w).alloc (Nat.le_refl _) _).alloc (by simp) _).alloc (by simp; omega) _).cell hlb |>.trans hcell
      clear hcell
      have HLT := Lib.hid (toldTo_succ x l k)
      have HR := Lib.hid (validB_iff x (l.getD k 0) 0)
      generalize toldTo x l k = m at *
      generalize l.getD k 0 = id at *
      by_cases hid : 0 < id ∧ id < 9
      · obtain ⟨hi1, hi2⟩ := hid
        have hc0 : (((w.alloc (.cells cs.toArray 24)).alloc (.cells #[.int .i64 p, .int .i64 q] 22)).alloc (.cells #[.int .i64 0, .int .i64 0] 22)).cell? ⟨w.heap.size, id.toNat * 2, none⟩ = some (.int .i64 (x (id.toNat * 2))) := by
          rw [cell_of_row _ _ _ cs.toArray _ _ ((Below.heap_alloc _ _ _ (by simp; omega)).trans hB)]; exact HG.out _ (by omega)
        clear hB
        have HR' : Hid (validB x id 0 = true ↔ 0 < id ∧ id < 9 ∧ 0 < x (id.toNat * 2)) := HR.out
        clear HR
        generalize x (id.toNat * 2) = xs at *
        go_wp2
        all_goals
          go_round
          case rel => exact ⟨k + 1, by omega, by go_num, by rw [HLT.out]; first | rw [HR'.out.2 (by omega), Bool.or_true] | rw [(Bool.eq_false_iff.2 (fun h => by have := HR'.out.1 h; omega) : validB x id 0 = false), Bool.or_false]⟩
          case measure => simp [intOf]; omega
      · clear hB
        go_wp2
        all_goals
          go_round
          case rel => exact ⟨k + 1, by omega, by go_num, by rw [HLT.out, (Bool.eq_false_iff.2 (fun h => by have := HR.out.1 h; omega) : validB x id 0 = false), Bool.or_false]⟩
          case measure => simp [intOf]; omega
    · obtain rfl : k = l.length := by omega
      have HR := Lib.hid (show (refLeast x l p q) = if toldTo x l l.length = true ∧ mayB x = true then (leastTo x l 0 24 l.length, leastTo x l 1 40 l.length) else (p, q) from rfl)
      by_cases ht : toldTo x l l.length = true
      · by_cases hm : mayB x = true
        · go_wp2_with (first
            | (refine wpList_load_row_g rfl 24 (.tmp 3) rfl w.heap.size rfl 24 cs.toArray (0, 0) _ (by rw [Below.heap_alloc _ _ _ (by simp; omega)]; exact heap_alloc2_old _ _ _) Try.underlying24 rfl HI.out ?_)
            | (go_at_call 13; refine (hmay _).mono ?_; rintro e w' ⟨rfl, rfl⟩))
          generalize hw4 : World.alloc (World.alloc _ _) _ = w4
          have hB4 : w4.heap[w.heap.size]? = some (.cells cs.toArray 24 (0, 0)) := by
            rw [← hw4, Below.heap_alloc _ _ _ (by simp; omega), Below.heap_alloc _ _ _ (by simp; omega)]; exact heap_alloc2_old _ _ _
          have hb4 : Below w.heap.size w w4 := by rw [← hw4]; exact ((((Below.refl _ _).alloc (Nat.le_refl _) _).alloc (by simp) _).alloc (by simp; omega) _).alloc (by simp; omega) _
          have hs4 : w4.heap.size = w.heap.size + 4 := by rw [← hw4]; simp
          have hZ4 : w4.heap[w.heap.size + 1 + 1]? = some (.cells #[.int .i64 0, .int .i64 0] 22 (0, 0)) := by
            rw [← hw4, Below.heap_alloc _ _ _ (by simp)]; exact heap_alloc3_new _ _ _ _
          have hz0 : w4.cell? ⟨w.heap.size + 1 + 1, 0, none⟩ = some (.int .i64 0) := by rw [cell_of_row _ _ _ _ _ _ hZ4]; rfl
          have hz1 : w4.cell? ⟨w.heap.size + 1 + 1, 1, none⟩ = some (.int .i64 0) := by rw [cell_of_row _ _ _ _ _ _ hZ4]; rfl
          have hzf0 := frozen_row w4 _ 0 _ _ hZ4
          have hzf1 := frozen_row w4 _ 1 _ _ hZ4
          have HZ4 := Lib.hid hZ4
          clear hw4 hZ4
          have hu24 := Try.underlying24
          have hi24 := HIL.out
          have hR4 := rangeAt_row hB4
          have HC4 := Lib.hid (HC.out.below (hb4.mono (Nat.le_refl _)))
          refine wp_region_noPanic ?_
          refine wp_region_held_drew (S := fun W => W.rangeAt w.heap.size 0 cs) (by kernel_rfl) hR4 (fun hHeld => ?_)
          refine wpAnyH_take (i := 0) rfl (by kernel_rfl) (by kernel_rfl) (by kernel_rfl) (fun _ _ _ h => h) (yieldsIf_load_mid (by rfl) 24 (.tmp 3) rfl w.heap.size 0 rfl cs _ (fun _ h => h) hu24 rfl hi24) hHeld ?_
          refine wpAnyH_take (i := 1) (v := .slice ad l.length c) rfl (by kernel_rfl) (by kernel_rfl) (by kernel_rfl) (fun _ _ _ h => h) (Or.inl ⟨by rfl, fun _ _ => rfl⟩) hHeld ?_
          refine wpAnyH_take (i := 3) rfl (by kernel_rfl) (by kernel_rfl) (by kernel_rfl) (fun _ _ _ h => h) (yieldsIf_load_mid (by rfl) 24 (.tmp 3) rfl w.heap.size 0 rfl cs _ (fun _ h => h) hu24 rfl hi24) hHeld ?_
          refine wpAnyH_take (i := 4) (v := .slice ad l.length c) rfl (by kernel_rfl) (by kernel_rfl) (by kernel_rfl) (fun _ _ _ h => h) (Or.inl ⟨by rfl, fun _ _ => rfl⟩) hHeld ?_
          simp only [Act.put]
          refine wpAnyH_ready (rs := [2]) (by kernel_rfl) (by simp) (AllReadyH.cons rfl (fun K hK => ?_) AllReadyH.nil)
          rw [if_pos (by rfl)]
          go_simp
          refine (hl0 _ (by exact HC4.out)).mono ?_
          rintro e w5 ⟨rfl, rfl⟩
          refine hK.out _ _ (rangeAt_alloc hR4 _) (fun hHeld => ?_)
          clear hK K
          refine wpAnyH_ready (rs := [5]) (by kernel_rfl) (by simp) (AllReadyH.cons rfl (fun K hK => ?_) AllReadyH.nil)
          rw [if_pos (by rfl)]
          go_simp
          refine (hl1 _ (by exact HC4.out.alloc _)).mono ?_
          rintro e w6 ⟨rfl, rfl⟩
          refine hK.out _ _ (rangeAt_alloc hHeld _) (fun hHeld => ?_)
          clear hK K
          refine wpAnyH_take (i := 6) (v := .agg #[.int .i64 (leastTo x l 0 24 l.length), .int .i64 (leastTo x l 1 40 l.length)]) rfl (by kernel_rfl) (by kernel_rfl) (by kernel_rfl) (fun _ _ _ h => h) (Or.inl ⟨by rfl, fun w' _ => by go_simp⟩) hHeld ?_
          simp only [Act.put]
          refine wpAnyH_ready (rs := [7]) (by kernel_rfl) (by simp) (AllReadyH.cons rfl (fun K hK => ?_) AllReadyH.nil)
          rw [if_pos (by rfl)]
          go_simp
          refine hK.out _ _ ?_ (fun hHeld => ?_)
          · exact rangeAt_alloc (rangeAt_alloc (rangeAt_setCell (rangeAt_setCell hR4 _ _ (by simp; omega)) _ _ (by simp; omega)) _) _
          refine wpAnyH_done (by kernel_rfl) ?_ _
          refine NoPanic.normal ?_
          go_wp2_with fail
          refine bodyPost_ret (results_cell_row rfl _ _ (w.heap.size + 1 + 1) 22 #[.int .i64 (leastTo x l 0 24 l.length), .int .i64 (leastTo x l 1 40 l.length)] (0, 0) _ rfl ((Below.heap_alloc _ _ _ (by simp; omega)).trans ((Below.heap_alloc _ _ _ (by simp; omega)).trans (heap_setCell_same _ _ 1 _ _ _ (heap_setCell_same _ _ 0 _ _ _ HZ4.out)))) Try.underlying22 rfl pairInfo) rfl ⟨by rw [HR.out, if_pos ⟨ht, hm⟩], ?_⟩
          exact ((((hb4.setCell (by simp; omega) _).setCell (by simp; omega) _).alloc (by simp; omega) _).alloc (by simp; omega) _).drew
        · have hm : mayB x = false := by simpa using hm
          go_wp2_with (first
            | (refine wpList_load_row_g rfl 24 (.tmp 3) rfl w.heap.size rfl 24 cs.toArray (0, 0) _ (by rw [Below.heap_alloc _ _ _ (by simp; omega)]; exact heap_alloc2_old _ _ _) Try.underlying24 rfl HI.out ?_)
            | (go_at_call 13; refine (hmay _).mono ?_; rintro e w' ⟨rfl, rfl⟩))
          refine bodyPost_ret (results_cell_row rfl _ _ (w.heap.size + 1 + 1) 22 #[.int .i64 p, .int .i64 q] (0, 0) _ rfl ?_ Try.underlying22 rfl pairInfo) rfl ⟨by rw [HR.out, if_neg (by simp [hm])], ?_⟩
          · exact (Below.heap_alloc _ _ _ (by simp)).trans (heap_alloc3_new _ _ _ _)
          · exact below_alloc4 _ _ _ _ _
      · have ht : toldTo x l l.length = false := by simpa using ht
        go_wp2_with fail
        refine bodyPost_ret (results_cell_row rfl _ _ (w.heap.size + 1 + 1) 22 #[.int .i64 p, .int .i64 q] (0, 0) _ rfl ?_ Try.underlying22 rfl pairInfo) rfl ⟨by rw [HR.out, if_neg (by simp [ht])], ?_⟩
        · exact heap_alloc3_new _ _ _ _
        · exact below_alloc3 _ _ _ _
end Go.Proofs.Ytcjlkggdcnochaa
