/- Walk of the law ColsParts. Conditions: the table lies as laid; the slice reads as a row of numbers. -/
import Derived.Test.YtcjlkggdcnochaaDoorColsI
import Derived.Test.YtcjlkggdcnochaaDoorColsH
namespace Go.Proofs.YtcjlkggdcnochaaDoor
open Go.RowKit
set_option linter.unusedVariables false

theorem spanTo_takelen (l : List Int) (k : Nat) (hk : k ≤ l.length) : spanTo (l.take k) (l.take k).length = spanTo l k := by
  rw [spanTo_take l k _ (by simp; omega)]; congr 1; simp; omega
theorem spanTo_parts (l : List Int) (k : Nat) : spanTo (l.take k) (l.take k).length + spanTo (l.drop k) (l.drop k).length = spanTo l l.length := by
  rw [← spanTo_append, List.take_append_drop]
theorem isCut_le {l : List Int} {n : Int} {k : Nat} (h : IsCut l n k) (hn : 0 ≤ n) : spanTo l k ≤ n := by
  cases k with
  | zero => simpa [spanTo] using hn
  | succ k => exact h.2.1 k (by omega)
theorem isCut_neg {l : List Int} {n : Int} {k : Nat} (h : IsCut l n k) (hn : n < 0) : k = 0 := by
  cases k with
  | zero => rfl
  | succ k => have := h.2.1 k (by omega); have := (spanTo_bd l (k + 1)).1; omega

set_option maxHeartbeats 4000000 in
theorem law_ColsParts (ad : Option Addr) (cp : Nat) (l : List Int) (n : Int) (w : World) (ht : Tab w)
    (hlc : l.length ≤ cp) (hcp : cp ≤ 9223372036854775807) (hc : RowAt w ad (runeCells l)) (hc0 : ad = none → l.length = 0 ∧ cp = 0) (hn : (Lit.int .i64 n).wf = true) :
    Calls Tryd.prog 6 #[.slice ad l.length cp, .int .i64 n] w fun e w' => e = .returned (.bool true) ∧ Below w.heap.size w w' := by
  have HT := Lib.hid ht
  have HC := Lib.hid hc
  have HC0 := Lib.hid hc0
  clear ht hc hc0
  obtain ⟨hn1, hn2⟩ : -9223372036854775808 ≤ n ∧ n ≤ 9223372036854775807 := wf64 hn
  clear hn
  go_enter Tryd.func6, Tryd.ntmps6
  go_wp2_with fail
  refine (known13_any _ HT.out).mono ?_
  rintro e w1 ⟨rfl, hb1⟩
  have HB1 := Lib.hid hb1
  clear hb1
  by_cases hl5 : 500 < l.length
  · go_wp2_with fail
    go_ret
    exact ⟨rfl, HB1.out⟩
  go_wp2_with fail
  refine (cut_any ad cp l n _ (HT.out.below HB1.out) (by omega) hlc hcp (HC.out.below HB1.out) HC0.out hn1 hn2).mono ?_
  rintro e w2 ⟨k, v1, v2, hk, rfl, ho1, ho2, hb2⟩
  obtain ⟨a1, c1, rfl, hc1, hm1, _, hr1⟩ := owns_slice ho1
  obtain ⟨a2, c2, rfl, hc2, hm2, _, hr2⟩ := owns_slice ho2
  have HK := Lib.hid hk
  have hkl := hk.1
  have HB2 := Lib.hid (HB1.out.trans (hb2.mono HB1.out.size))
  have HM1 := Lib.hid hm1
  have HM2 := Lib.hid hm2
  have HR1 := Lib.hid hr1
  have HR2 := Lib.hid hr2
  clear hk hm1 hm2 hr1 hr2 ho1 ho2 hb2
  have hl1 : (l.take k).length = k := by simp; omega
  have hl2 : (l.drop k).length = l.length - k := by simp
  have S1 : Hid (∀ W, Below w2.heap.size w2 W → Calls Tryd.prog 13 #[.slice a1 k c1] W fun e w' => e = .returned (.int .i64 (spanTo l k)) ∧ Below W.heap.size W w') := fun W hW => by
    have := span_any a1 c1 (l.take k) W (HT.out.below (HB2.out.trans (hW.mono HB2.out.size))) (by omega) (HR1.out.below hW)
    rw [spanTo_takelen l k hkl, hl1] at this; exact this
  obtain ⟨s2, hs2⟩ : ∃ s2, s2 = spanTo (l.drop k) (l.drop k).length := ⟨_, rfl⟩
  have hsum : spanTo l k + s2 = spanTo l l.length := by rw [hs2, ← spanTo_parts l k, spanTo_takelen l k hkl]
  have S2 : Hid (∀ W, Below w2.heap.size w2 W → Calls Tryd.prog 13 #[.slice a2 (l.length - k) c2] W fun e w' => e = .returned (.int .i64 s2) ∧ Below W.heap.size W w') := fun W hW => by
    have := span_any a2 c2 (l.drop k) W (HT.out.below (HB2.out.trans (hW.mono HB2.out.size))) (by omega) (HR2.out.below hW)
    rw [← hs2, hl2] at this; exact this
  have S3 : Hid (∀ W, Below w2.heap.size w2 W → Calls Tryd.prog 13 #[.slice ad l.length cp] W fun e w' => e = .returned (.int .i64 (spanTo l l.length)) ∧ Below W.heap.size W w') := fun W hW =>
    span_any ad cp l W (HT.out.below (HB2.out.trans (hW.mono HB2.out.size))) (by omega) (HC.out.below (HB2.out.trans (hW.mono HB2.out.size)))
  have S4 : Hid (k < l.length → ∀ W, Below w2.heap.size w2 W → Calls Tryd.prog 13 #[.slice ad (k + 1) cp] W fun e w' => e = .returned (.int .i64 (spanTo l (k + 1))) ∧ Below W.heap.size W w') := fun hlt W hW => by
    have := span_any ad cp (l.take (k + 1)) W (HT.out.below (HB2.out.trans (hW.mono HB2.out.size))) (by simp; omega) (by rw [runeCells_take]; exact rowAt_take (HC.out.below (HB2.out.trans (hW.mono HB2.out.size))) _)
    have e : (l.take (k + 1)).length = k + 1 := by simp; omega
    rw [spanTo_takelen l (k + 1) hlt, e] at this; exact this
  have hS2 : 0 ≤ s2 ∧ s2 ≤ 2000 := by have := spanTo_bd (l.drop k) (l.drop k).length; rw [← hs2] at this; omega
  obtain ⟨hS21, hS22⟩ := hS2
  obtain ⟨hS11, hS12⟩ := spanTo_bd l k
  have HNeg : Hid (n < 0 → k = 0) := isCut_neg HK.out
  have HLe : Hid (0 ≤ n → spanTo l k ≤ n) := isCut_le HK.out
  have HGt : Hid (k < l.length → n < spanTo l (k + 1)) := fun h => by rcases HK.out.2.2 with e | e; omega; exact e
  obtain ⟨hS31, hS32⟩ := spanTo_bd l (k + 1)
  obtain ⟨q1, hq1⟩ : ∃ q, q = spanTo l k := ⟨_, rfl⟩
  obtain ⟨q3, hq3⟩ : ∃ q, q = spanTo l l.length := ⟨_, rfl⟩
  obtain ⟨q4, hq4⟩ : ∃ q, q = spanTo l (k + 1) := ⟨_, rfl⟩
  rw [← hq1] at hsum S1 hS11 hS12 HLe
  rw [← hq3] at hsum S3
  rw [← hq4] at S4 HGt hS31 hS32
  have HSUM := Lib.hid hsum
  clear hs2 hq1 hq3 hq4 hl1 hl2 hsum
  go_wp2_with fail
  refine (S1.out _ (Below.refl _ _)).mono ?_
  rintro e w3 ⟨rfl, hb3⟩
  have HB3 := Lib.hid hb3
  clear hb3
  go_wp2_with fail
  refine (S2.out _ HB3.out).mono ?_
  rintro e w4 ⟨rfl, hb4⟩
  have HB4 := Lib.hid (HB3.out.trans (hb4.mono HB3.out.size))
  clear hb4
  go_wp2_with fail
  refine (S3.out _ HB4.out).mono ?_
  rintro e w5 ⟨rfl, hb5⟩
  have HB5 := Lib.hid (HB4.out.trans (hb5.mono HB4.out.size))
  clear hb5
  have hne : (q1 + s2 != q3) = false := by have := HSUM.out; simp; omega
  go_wp2_with fail
  go_loopw [7] (fun i wr => ∃ j : Nat, j ≤ l.length ∧ i = .int .i64 j ∧ ∃ n, wr = w5.drewN n) (fun i _ => l.length - (intOf i).toNat)
  case atStart => exact ⟨0, by omega, rfl, 0, rfl⟩
  case round =>
    obtain ⟨j, hj, rfl, nn, rfl⟩ := hrel
    clear hne
    by_cases hlt : j < l.length
    · obtain ⟨b, off, hab, hlb, hlc⟩ := (HC.out.below (HB2.out.trans (HB5.out.mono HB2.out.size))).rune hlt
      by_cases hjk : j < k
      · obtain ⟨b', off', hab', hlb', hlc'⟩ := (HR1.out.below HB5.out).rune (j := j) (by simp; omega)
        rw [show (l.take k).getD j 0 = l.getD j 0 by simp [List.getD, hjk]] at hlc'
        subst hab hab'
        have hd : decide (k ≤ j) = false := by simp; omega
        generalize l.getD j 0 = x at *
        go_wp2_with fail
        go_quiet (fail)
        go_wp2_with fail
        go_roundw
        case rel => exact ⟨j + 1, by omega, by go_num, _, rfl⟩
        case measure => simp [intOf]; omega
      · obtain ⟨b', off', hab', hlb', hlc'⟩ := (HR2.out.below HB5.out).rune (j := j - k) (by simp; omega)
        rw [show (l.drop k).getD (j - k) 0 = l.getD j 0 by simp [List.getD, show k + (j - k) = j by omega]] at hlc'
        subst hab hab'
        generalize l.getD j 0 = x at *
        obtain ⟨d, rfl⟩ : ∃ d, j = k + d := ⟨j - k, by omega⟩
        rw [Nat.add_sub_cancel_left] at hlc'
        have hd1 : decide ((k : Int) + (d : Int) < k) = false := by simp; omega
        have hd2 : decide ((k : Int) ≤ (k : Int) + (d : Int)) = true := by simp; omega
        have hd3 : (k : Int) + (d : Int) - k = d := by omega
        go_wp2_with fail
        go_quiet (fail)
        go_wp2_with fail
        go_roundw
        case rel => exact ⟨k + d + 1, by omega, by go_num, _, rfl⟩
        case measure => simp [intOf]; omega
    · obtain rfl : j = l.length := by omega
      by_cases hneg : n < 0
      · obtain rfl := HNeg.out hneg
        go_wp2_with fail
        go_ret
        exact ⟨rfl, below_dr (HB2.out.trans (HB5.out.mono HB2.out.size)) _⟩
      · have hle := HLe.out (by omega)
        go_wp2_with fail
        refine (S1.out _ (below_dr HB5.out nn)).mono ?_
        rintro e w6 ⟨rfl, hb6⟩
        have HB6 := Lib.hid ((below_dr HB5.out nn).trans (hb6.mono HB5.out.size))
        clear hb6
        by_cases hlk : k < l.length
        · have hz : ((l.length : Int) - (k : Int) == 0) = false := by simp; omega
          have hg := HGt.out hlk
          go_wp2_with fail
          refine (S4.out hlk _ HB6.out).mono ?_
          rintro e w7 ⟨rfl, hb7⟩
          have HB7 := Lib.hid (HB6.out.trans (hb7.mono HB6.out.size))
          clear hb7
          go_wp2_with fail
          go_ret
          exact ⟨rfl, HB2.out.trans (HB7.out.mono HB2.out.size)⟩
        · obtain rfl : k = l.length := by omega
          go_wp2_with fail
          go_ret
          exact ⟨rfl, HB2.out.trans (HB6.out.mono HB2.out.size)⟩
end Go.Proofs.YtcjlkggdcnochaaDoor
