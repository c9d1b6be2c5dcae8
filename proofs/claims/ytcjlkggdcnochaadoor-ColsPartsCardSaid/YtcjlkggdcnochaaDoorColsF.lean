/- Walk of the reference's Cut; known. Conditions: the table lies as laid; lists of at most a million. -/
import Derived.Test.YtcjlkggdcnochaaDoorColsE
namespace Go.Proofs.YtcjlkggdcnochaaDoor
open Go.RowKit

theorem IsCut.unique {l : List Int} {n : Int} {j k : Nat} (hj : IsCut l n j) (hk : IsCut l n k) : j = k := by
  obtain ⟨a1, a2, a3⟩ := hj
  obtain ⟨b1, b2, b3⟩ := hk
  rcases Nat.lt_trichotomy j k with h | h | h
  · have := b2 j h
    rcases a3 with h3 | h3 <;> omega
  · exact h
  · have := a2 k h
    rcases b3 with h3 | h3 <;> omega
theorem spanTo_take (l : List Int) (k : Nat) : ∀ i, i ≤ k → spanTo (l.take k) i = spanTo l i
  | 0, _ => rfl
  | i + 1, h => by
    rw [spanTo_succ, spanTo_succ, spanTo_take l k i (by omega)]
    congr 2
    simp only [List.getD_eq_getElem?_getD, List.getElem?_take]
    rw [if_pos (by omega)]

set_option maxHeartbeats 2000000 in
theorem refCut_any (ad : Option Addr) (cp : Nat) (l : List Int) (n : Int) (w : World) (hl : l.length ≤ 1000000) (hcp : l.length ≤ cp) (hc : RowAt w ad (runeCells l)) :
    Calls Tryd.prog 11 #[.slice ad l.length cp, .int .i64 n] w fun e w' => ∃ k : Nat, IsCut l n k ∧ e = .returned (.int .i64 k) ∧ w = w' := by
  have HC := Lib.hid hc
  clear hc
  go_enter Tryd.func11, Tryd.ntmps11
  go_wp2_with fail
  go_loop [5] (fun i => ∃ k : Nat, k ≤ l.length ∧ i = .int .i64 k ∧ ∀ j, k < j → j ≤ l.length → n < spanTo l j) (fun i => (intOf i).toNat)
  case atStart => exact ⟨l.length, by omega, rfl, fun j h1 h2 => by omega⟩
  case round =>
    obtain ⟨k, hk, rfl, hall⟩ := hrel
    have HALL := Lib.hid hall
    clear hall
    by_cases h0 : 0 < k
    · have hkc : k ≤ cp := by omega
      have hcon := refSpan_any ad cp (l.take k) w (by simp; omega) (by rw [runeCells_take]; exact rowAt_take HC.out k)
      have hlen : (l.take k).length = k := by simp; omega
      rw [hlen, spanTo_take l k k (by omega)] at hcon
      have HCON := Lib.hid hcon
      clear hcon
      clear hlen
      have HKN := Lib.hid (show spanTo l k = spanTo l k from rfl)
      by_cases hq : spanTo l k ≤ n
      · have HF : Hid (IsCut l n k) := ⟨hk, fun j hj => by have := spanTo_mono l (show j + 1 ≤ k by omega); omega, by
          by_cases e : k = l.length
          · exact .inl e
          · exact .inr (HALL.out (k + 1) (by omega) (by omega))⟩
        generalize spanTo l k = s at hq HCON
        go_wp2_with (go_at_call 14; refine HCON.out.mono ?_; rintro e w1 ⟨rfl, rfl⟩)
        go_ret
        exact ⟨k, HF.out, rfl, rfl⟩
      · have HST : Hid (∀ j, k - 1 < j → j ≤ l.length → n < spanTo l j) := fun j h1 h2 => by
          by_cases e : j = k
          · subst e; omega
          · exact HALL.out j (by omega) h2
        generalize spanTo l k = s at hq HCON
        go_wp2_with (go_at_call 14; refine HCON.out.mono ?_; rintro e w1 ⟨rfl, rfl⟩)
        go_round
        case rel => exact ⟨k - 1, by omega, by go_num, HST.out⟩
        case measure => simp [intOf]; omega
    · obtain rfl : k = 0 := by omega
      go_wp2_with fail
      go_ret
      refine ⟨0, ⟨by omega, fun j hj => by omega, ?_⟩, rfl, rfl⟩
      by_cases e : 0 = l.length
      · exact .inl e
      · exact .inr (HALL.out 1 (by omega) (by omega))
end Go.Proofs.YtcjlkggdcnochaaDoor
