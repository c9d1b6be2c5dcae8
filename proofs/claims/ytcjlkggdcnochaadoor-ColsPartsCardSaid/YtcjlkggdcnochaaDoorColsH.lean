/- Walk of the law ColsAdds. Conditions: the table lies as laid; the slices read as rows of numbers. -/
import Derived.Test.YtcjlkggdcnochaaDoorColsG
import Derived.Test.YtcjlkggdcnochaaDoorApp
namespace Go.Proofs.YtcjlkggdcnochaaDoor
open Go.RowKit
set_option linter.unusedVariables false

theorem spanTo_app_left (l m : List Int) (k : Nat) (hk : k ≤ l.length) : spanTo (l ++ m) k = spanTo l k := by
  induction k with
  | zero => rfl
  | succ k ih => rw [spanTo_succ, spanTo_succ, ih (by omega)]; congr 2; simp [List.getD, List.getElem?_append_left (show k < l.length by omega)]
theorem spanTo_app_right (l m : List Int) (k : Nat) : spanTo (l ++ m) (l.length + k) = spanTo l l.length + spanTo m k := by
  induction k with
  | zero => simp [spanTo, spanTo_app_left]
  | succ k ih => rw [← Nat.add_assoc, spanTo_succ, spanTo_succ, ih, Int.add_assoc]; congr 3; simp [List.getD, List.getElem?_append_right]
theorem spanTo_append (l m : List Int) : spanTo (l ++ m) (l ++ m).length = spanTo l l.length + spanTo m m.length := by rw [List.length_append]; exact spanTo_app_right l m _

set_option maxHeartbeats 2000000 in
theorem law_ColsAdds (ad : Option Addr) (cp : Nat) (l : List Int) (bd : Option Addr) (cq : Nat) (m : List Int) (w : World) (ht : Tab w)
    (hlc : l.length ≤ cp) (hcp : cp ≤ 9223372036854775807) (hc : RowAt w ad (runeCells l)) (hc0 : ad = none → l.length = 0 ∧ cp = 0) (hmc : m.length ≤ cq) (hcq : cq ≤ 9223372036854775807) (hd : RowAt w bd (runeCells m)) (hd0 : bd = none → m.length = 0 ∧ cq = 0) :
    Calls Tryd.prog 7 #[.slice ad l.length cp, .slice bd m.length cq] w fun e w' => e = .returned (.bool true) ∧ Below w.heap.size w w' := by
  have HT := Lib.hid ht
  have HC := Lib.hid hc
  have HD := Lib.hid hd
  have HC0 := Lib.hid hc0
  have HD0 := Lib.hid hd0
  clear ht hc hd hc0 hd0
  obtain ⟨i0, hi, hz0, hz1, hz2⟩ := info_parts info32
  go_enter Tryd.func7, Tryd.ntmps7
  go_wp2_with fail
  refine (known13_any _ HT.out).mono ?_
  rintro e w1 ⟨rfl, hb1⟩
  have HB1 := Lib.hid hb1
  have HT1 := Lib.hid (HT.out.below hb1)
  clear hb1
  by_cases hl5 : 500 < l.length
  · go_wp2_with fail
    go_ret
    exact ⟨rfl, HB1.out⟩
  by_cases hm5 : 500 < m.length
  · go_wp2_with fail
    go_ret
    exact ⟨rfl, HB1.out⟩
  go_wp2_with fail
  go_loopw [5, 6] (fun t i wr => ∃ k : Nat, k ≤ l.length ∧ i = .int .i64 k ∧ t = .int .i64 (spanTo l k) ∧ Below w.heap.size w wr) (fun _ i _ => l.length - (intOf i).toNat)
  case atStart => exact ⟨0, by omega, rfl, rfl, HB1.out⟩
  case round =>
    obtain ⟨k, hk, rfl, rfl, hb⟩ := hrel
    have HB := Lib.hid hb
    have hsp := spanTo_bd l k
    obtain ⟨hsp1, hsp2⟩ := hsp
    by_cases hlt : k < l.length
    · obtain ⟨b, off, rfl, hlb, hcell⟩ := HC.out.rune hlt
      have HCELL := Lib.hid (fun (W : World) (hW : Below w.heap.size w W) => show W.cell? ⟨b, off + k, none⟩ = some (.int .i32 (l.getD k 0)) from (hW.cell (p := ⟨b, off + k, none⟩) hlb).trans hcell)
      have hlc := HCELL.out _ hb
      clear hcell hb
      have HS := Lib.hid (spanTo_succ l k)
      have hmm : mxR (l.getD k 0) = if 0 < ofR (l.getD k 0) then ofR (l.getD k 0) else 0 := rfl
      have HM := Lib.hid hmm
      clear hmm
      have hbd := ofR_bd (l.getD k 0)
      have HCON := Lib.hid (fun W h => of_any (l.getD k 0) W h)
      generalize spanTo l k = s at *
      generalize l.getD k 0 = c at *
      generalize ofR c = v at *
      go_wp2_with fail
      refine (HCON.out _ (HT.out.below HB.out)).mono ?_
      rintro e w2 ⟨rfl, hb2⟩
      have HB2 := Lib.hid (HB.out.trans (hb2.mono HB.out.size))
      have hlc2 := HCELL.out _ HB2.out
      clear hb2
      go_wp2_with fail
      refine (HCON.out _ (HT.out.below HB2.out)).mono ?_
      rintro e w3 ⟨rfl, hb3⟩
      have HB3 := Lib.hid (HB2.out.trans (hb3.mono HB2.out.size))
      have hlc3 := HCELL.out _ HB3.out
      clear hb3
      go_wp2_with fail
      refine (HCON.out _ (HT.out.below HB3.out)).mono ?_
      rintro e w4 ⟨rfl, hb4⟩
      have HB4 := Lib.hid (HB3.out.trans (hb4.mono HB3.out.size))
      clear hb4
      go_wp2_with fail
      go_roundw
      case rel => exact ⟨k + 1, by omega, by go_num, by rw [HS.out, HM.out], HB4.out⟩
      case measure => simp [intOf]; omega
    · obtain rfl : k = l.length := by omega
      have H0 := Lib.hid (World.ownsRow_made (base := wr.heap.size) (e := 21) (size := 1) wr #[] 0 (Nat.le_refl _) (by decide) rfl)
      have HB0 := Lib.hid (HB.out.alloc HB.out.size (.cells #[] 21))
      clear hb
      go_wp2_with (first
        | (at_builtin; refine wpList_append_row rfl (.tmp 45) (.tmp 46) 26 rfl wr.heap.size 21 i0 (.int .i32 0) 1 4 Tryd.underlying26 hi hz0 hz1 hz2 rfl (by decide) (.slice (some ⟨wr.heap.size, 0, none⟩) 0 0) 0 [] rfl H0.out ad l.length cp (runeCells l) rfl (by simp [runeCells]) (HC.out.below HB0.out) HC0.out (runes_one l) (by unfold maxLen; omega) (by omega) (by simp) ?_; intro v1 w2 hown1 hgrow1 hat1; have HAT1 := Lib.hid hat1; have HB1 := Lib.hid (HB0.out.grown hgrow1 (by have := HB.out.size; simp; omega) (by intro k hk; cases hk; exact HB.out.size)); have HS1 := Lib.hid hgrow1.size; have HO1 := Lib.hid hown1; clear hgrow1 hown1 hat1)
        | (at_builtin; refine wpList_append_row rfl (.tmp 47) (.tmp 48) 26 rfl wr.heap.size 21 i0 (.int .i32 0) 1 4 Tryd.underlying26 hi hz0 hz1 hz2 rfl (by decide) v1 (0 + l.length) ([] ++ runeCells l) rfl HO1.out bd m.length cq (runeCells m) rfl (by simp [runeCells]) (HD.out.below HB1.out) HD0.out (runes_one m) (by unfold maxLen; omega) (by omega) (by have := HS1.out; simp at this; omega) ?_; intro v2 w3 hown2 hgrow2 hat2))
      have HB2 := Lib.hid (HB1.out.grown hgrow2 (by have := HB1.out.size; omega) (by
        intro k hk; have := HB.out.size; have := HAT1.out; rw [hk] at this
        rcases this with e | e
        · cases e; omega
        · cases e; simp; omega))
      have ho2 : w3.ownsRow wr.heap.size 21 1 v2 (l ++ m).length (runeCells (l ++ m)) := by simpa [runeCells] using hown2
      obtain ⟨a2, c2, rfl, hc2, hr2⟩ := rowAt_of_owns ho2
      have HR2 := Lib.hid hr2
      clear hgrow2 hown2 hat2 hr2 ho2
      go_wp2_with fail
      have hsp := span_any a2 c2 (l ++ m) w3 (HT.out.below HB2.out) (by simp; omega) HR2.out
      rw [spanTo_append] at hsp
      refine hsp.mono ?_
      clear hsp
      rintro e w4 ⟨rfl, hb4⟩
      have HB4 := Lib.hid (HB2.out.trans (hb4.mono HB2.out.size))
      clear hb4
      go_wp2_with fail
      refine (span_any ad cp l _ (HT.out.below HB4.out) (by omega) (HC.out.below HB4.out)).mono ?_
      rintro e w5 ⟨rfl, hb5⟩
      have HB5 := Lib.hid (HB4.out.trans (hb5.mono HB4.out.size))
      clear hb5
      go_wp2_with fail
      refine (span_any bd cq m _ (HT.out.below HB5.out) (by omega) (HD.out.below HB5.out)).mono ?_
      rintro e w6 ⟨rfl, hb6⟩
      have HB6 := Lib.hid (HB5.out.trans (hb6.mono HB5.out.size))
      clear hb6
      have hsm := spanTo_bd m m.length
      have hsm2 := hsm.2
      have hsm1 := hsm.1
      clear hsm
      have HCON := Lib.hid (fun (W : World) (hW : Below w.heap.size w W) => span_any ad cp l W (HT.out.below hW) (by omega) (HC.out.below hW))
      generalize spanTo l l.length = s at *
      generalize spanTo m m.length = s' at *
      go_wp2_with fail
      refine (HCON.out _ HB6.out).mono ?_
      rintro e w7 ⟨rfl, hb7⟩
      have HB7 := Lib.hid (HB6.out.trans (hb7.mono HB6.out.size))
      clear hb7
      go_wp2_with fail
      go_ret
      exact ⟨rfl, HB7.out⟩
end Go.Proofs.YtcjlkggdcnochaaDoor
