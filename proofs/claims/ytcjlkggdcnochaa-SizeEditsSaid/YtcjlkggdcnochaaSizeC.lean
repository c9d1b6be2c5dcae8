/- Walks of the reference of size: May, least. Conditions: the list may be read. -/
import Derived.Test.YtcjlkggdcnochaaSizeB
namespace Go.Proofs.Ytcjlkggdcnochaa
open Go.RowKit

theorem rowOk_iff (x : Nat → Int) (k : Nat) : rowOk x k = true ↔ (x (k * 2) = 0 ∧ x (k * 2 + 1) = 0) ∨ (0 < k ∧ 1 ≤ x (k * 2) ∧ x (k * 2) ≤ 1000 ∧ 1 ≤ x (k * 2 + 1) ∧ x (k * 2 + 1) ≤ 1000) := by
  simp only [rowOk, windowB, eq2B, sideB, Bool.and_eq_true, Bool.or_eq_true, decide_eq_true_eq, Bool.not_eq_true', Bool.and_eq_false_iff, decide_eq_false_iff_not, Bool.not_eq_false']
  omega

set_option maxHeartbeats 1000000 in
theorem refMay_any (x : Nat → Int) (w : World) :
    Calls Try.prog 13 #[.agg (winCells x)] w fun e w' => e = .returned (.bool (mayB x)) ∧ w' = w.alloc (.cells (winCells x) 24) := by
  have HG := Lib.hid (winCells_get x)
  generalize winCells x = cs at *
  go_enter Try.func13, Try.ntmps13
  go_wp2_with fail
  go_loop [3] (fun i => ∃ k : Nat, k ≤ 9 ∧ i = .int .i64 k ∧ mayTo x k = true) (fun i => 9 - (intOf i).toNat)
  case atStart => exact ⟨0, by omega, rfl, rfl⟩
  case round =>
    obtain ⟨k, hk, rfl, hmt⟩ := hrel
    have HM := Lib.hid hmt
    clear hmt
    by_cases hlt : k < 9
    · have hB := heap_alloc_new w (.cells cs 24)
      have hc0 : (w.alloc (.cells cs 24)).cell? ⟨w.heap.size, k * 2, none⟩ = some (.int .i64 (x (k * 2))) := by rw [cell_of_row _ _ _ cs _ _ hB]; exact HG.out _ (by omega)
      have hc1 : (w.alloc (.cells cs 24)).cell? ⟨w.heap.size, k * 2 + 1, none⟩ = some (.int .i64 (x (k * 2 + 1))) := by rw [cell_of_row _ _ _ cs _ _ hB]; exact HG.out _ (by omega)
      clear hB
      have HR := Lib.hid (rowOk_iff x k)
      generalize x (k * 2) = a at *
      generalize x (k * 2 + 1) = b at *
      go_wp2
      all_goals first
        | (go_round
           case rel => exact ⟨k + 1, by omega, by go_num, by rw [mayTo, HM.out, HR.out.2 (by first | omega | (simp at *; omega))]; rfl⟩
           case measure => simp [intOf]; omega)
        | (go_ret; exact ⟨ret_bool (mayTo_false x hlt (by rw [← Bool.not_eq_true]; intro h; have h := HR.out.1 h; first | omega | (simp at *; omega))).symm, rfl⟩)
    · obtain rfl : k = 9 := by omega
      go_wp2
      go_ret
      exact ⟨ret_bool HM.out.symm, rfl⟩

def validB (x : Nat → Int) (id : Int) (side : Nat) : Bool := decide (0 < id) && decide (id < 9) && decide (0 < x (id.toNat * 2 + side))
theorem validB_iff (x : Nat → Int) (id : Int) (side : Nat) : validB x id side = true ↔ 0 < id ∧ id < 9 ∧ 0 < x (id.toNat * 2 + side) := by simp [validB, and_assoc]
def leastTo (x : Nat → Int) (l : List Int) (side : Nat) (most : Int) : Nat → Int
  | 0 => most
  | n + 1 => if validB x (l.getD n 0) side = true ∧ x ((l.getD n 0).toNat * 2 + side) < leastTo x l side most n then x ((l.getD n 0).toNat * 2 + side) else leastTo x l side most n
theorem leastTo_succ (x : Nat → Int) (l : List Int) (side : Nat) (most : Int) (n : Nat) : leastTo x l side most (n + 1) = if validB x (l.getD n 0) side = true ∧ x ((l.getD n 0).toNat * 2 + side) < leastTo x l side most n then x ((l.getD n 0).toNat * 2 + side) else leastTo x l side most n := rfl

set_option maxHeartbeats 1000000 in
theorem refleast_any (x : Nat → Int) (ad : Option Addr) (c : Nat) (l : List Int) (side : Nat) (most : Int) (w : World) (hside : side < 2) (hl : l.length ≤ 9223372036854775807) (hc : RowAt w ad (intCells l)) :
    Calls Try.prog 15 #[.agg (winCells x), .slice ad l.length c, .int .i64 side, .int .i64 most] w fun e w' => e = .returned (.int .i64 (leastTo x l side most l.length)) ∧ w' = w.alloc (.cells (winCells x) 24) := by
  have HG := Lib.hid (winCells_get x)
  have HC := Lib.hid hc
  clear hc
  generalize winCells x = cs at *
  go_enter Try.func15, Try.ntmps15
  go_wp2_with fail
  go_loop [9, 10] (fun m i => ∃ k : Nat, k ≤ l.length ∧ i = .int .i64 k ∧ m = .int .i64 (leastTo x l side most k)) (fun _ i => l.length - (intOf i).toNat)
  case atStart => exact ⟨0, by omega, rfl, rfl⟩
  case round =>
    obtain ⟨k, hk, rfl, rfl⟩ := hrel
    by_cases hlt : k < l.length
    · have hB := heap_alloc_new w (.cells cs 24)
      obtain ⟨b, off, rfl, hlb, hcell⟩ := HC.out.int hlt
      have hlc : (w.alloc (.cells cs 24)).cell? ⟨b, off + k, none⟩ = some (.int .i64 (l.getD k 0)) := (World.cell?_of_block (w := w) (Below.heap_alloc w _ _ hlb)).trans hcell
      clear hcell
      have HLT := Lib.hid (leastTo_succ x l side most k)
      have HR := Lib.hid (validB_iff x (l.getD k 0) side)
      generalize leastTo x l side most k = m at *
      generalize l.getD k 0 = id at *
      by_cases hid : 0 < id ∧ id < 9
      · obtain ⟨hi1, hi2⟩ := hid
        have hc0 : (w.alloc (.cells cs 24)).cell? ⟨w.heap.size, id.toNat * 2 + side, none⟩ = some (.int .i64 (x (id.toNat * 2 + side))) := by rw [cell_of_row _ _ _ cs _ _ hB]; exact HG.out _ (by omega)
        clear hB
        generalize x (id.toNat * 2 + side) = xs at *
        go_wp2
        all_goals
          go_round
          case rel => exact ⟨k + 1, by omega, by go_num, by rw [HLT.out]; first | rw [if_pos ⟨HR.out.2 (by omega), by omega⟩] | rw [if_neg (fun h => by have := HR.out.1 h.1; omega)]⟩
          case measure => simp [intOf]; omega
      · clear hB
        go_wp2
        all_goals
          go_round
          case rel => exact ⟨k + 1, by omega, by go_num, by rw [HLT.out, if_neg (fun h => by have := HR.out.1 h.1; omega)]⟩
          case measure => simp [intOf]; omega
    · obtain rfl : k = l.length := by omega
      go_wp2
      go_ret
      exact ⟨rfl, rfl⟩
end Go.Proofs.Ytcjlkggdcnochaa
