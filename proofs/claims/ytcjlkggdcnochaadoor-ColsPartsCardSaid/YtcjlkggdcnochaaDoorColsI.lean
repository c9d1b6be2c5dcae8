/- Walk of the law ColsCuts. Conditions: the table lies as laid; the slice reads as a row of numbers. -/
import Derived.Test.YtcjlkggdcnochaaDoorColsG
import Derived.Test.YtcjlkggdcnochaaDoorApp
namespace Go.Proofs.YtcjlkggdcnochaaDoor
open Go.RowKit
set_option linter.unusedVariables false

theorem run_tail (ad : Option Addr) (n cp k : Nat) (hk : k ≤ n) (W : World) : (Instr.slice 26 (.slice ad n cp) (some (.int .i64 (k : Int))) none none).run Tryd.prog W = .ok (.slice (tailAd ad cp k 1) (n - k) (cp - k)) W := by
  go_simp; simp [tailAd]

set_option maxHeartbeats 2000000 in
theorem law_ColsCuts (ad : Option Addr) (cp : Nat) (l : List Int) (n : Int) (w : World) (ht : Tab w)
    (hlc : l.length ≤ cp) (hcp : cp ≤ 9223372036854775807) (hc : RowAt w ad (runeCells l)) (hc0 : ad = none → l.length = 0 ∧ cp = 0) (hn : (Lit.int .i64 n).wf = true) :
    Calls Tryd.prog 5 #[.slice ad l.length cp, .int .i64 n] w fun e w' => e = .returned (.bool true) ∧ Below w.heap.size w w' := by
  have HT := Lib.hid ht
  have HC := Lib.hid hc
  have HC0 := Lib.hid hc0
  clear ht hc hc0
  obtain ⟨hn1, hn2⟩ : -9223372036854775808 ≤ n ∧ n ≤ 9223372036854775807 := wf64 hn
  clear hn
  obtain ⟨i0, hi, hz0, hz1, hz2⟩ := info_parts info32
  go_enter Tryd.func5, Tryd.ntmps5
  go_wp2_with fail
  refine (known13_any _ HT.out).mono ?_
  rintro e w1 ⟨rfl, hb1⟩
  have HB1 := Lib.hid hb1
  clear hb1
  by_cases hl5 : 300 < l.length
  · go_wp2_with fail
    go_ret
    exact ⟨rfl, HB1.out⟩
  have H0 := Lib.hid (World.ownsRow_made (base := w1.heap.size) (e := 21) (size := 1) w1 #[] 0 (Nat.le_refl _) (by decide) rfl)
  have HB0 := Lib.hid (HB1.out.alloc HB1.out.size (.cells #[] 21))
  go_wp2_with (at_builtin; refine wpList_append_row rfl (.tmp 15) (.tmp 16) 26 rfl w1.heap.size 21 i0 (.int .i32 0) 1 4 Tryd.underlying26 hi hz0 hz1 hz2 rfl (by decide) (.slice (some ⟨w1.heap.size, 0, none⟩) 0 0) 0 [] rfl H0.out ad l.length cp (runeCells l) rfl (by simp [runeCells]) (HC.out.below HB0.out) HC0.out (runes_one l) (by unfold maxLen; omega) (by omega) (by simp) ?_; intro vo w2 hown1 hgrow1 hat1)
  have ho2 : w2.ownsRow w1.heap.size 21 1 vo l.length (runeCells l) := by simpa using hown1
  have HB2 := Lib.hid (HB0.out.grown hgrow1 (by have := HB1.out.size; simp; omega) (by intro k hk; cases hk; exact HB1.out.size))
  have HO2 := Lib.hid (owns_base ho2 HB1.out.size)
  obtain ⟨ao, co, rfl, hco, hcm, ho0, hro⟩ := owns_slice ho2
  have HOC := Lib.hid hcm
  have HO0 := Lib.hid ho0
  clear hown1 hgrow1 hat1 ho2 hcm ho0 hro
  go_wp2_with fail
  refine (refCut_any ad cp l n _ (by omega) hlc (HC.out.below HB2.out)).mono ?_
  rintro e w2' ⟨k, hk, rfl, rfl⟩
  have HK := Lib.hid hk
  have hkl := hk.1
  clear hk
  go_wp2_with fail
  refine (cut_any ao co l n _ (HT.out.below HB2.out) (by omega) hco (by have := HOC.out; unfold maxLen at this; omega) (owns_rowAt HO2.out) HO0.out hn1 hn2).mono ?_
  rintro e w3 ⟨k', v1, v2, hk', rfl, ho1, ho2, hb3⟩
  obtain rfl := HK.out.unique hk'
  have HB3 := Lib.hid (HB2.out.trans (hb3.mono HB2.out.size))
  have HO3 := Lib.hid (owns_below HO2.out hb3)
  have HLT := Lib.hid (owns_lt HO2.out)
  have HV1 := Lib.hid ho1
  have HV2 := Lib.hid ho2
  clear hk' hb3 ho1 ho2
  generalize hB2 : w2.heap.size = B2 at *
  clear hB2
  go_wp2_with fail
  refine (span_any ao co l _ (HT.out.below HB3.out) (by omega) (owns_rowAt HO3.out)).mono ?_
  rintro e w4 ⟨rfl, hb4⟩
  have HB4 := Lib.hid (HB3.out.trans (hb4.mono HB3.out.size))
  have HO4 := Lib.hid (owns_below HO3.out hb4)
  have HV14 := Lib.hid (owns_below HV1.out hb4)
  have HV24 := Lib.hid (owns_below HV2.out hb4)
  clear hb4
  go_wp2_with fail
  refine (refSpan_any ad cp l _ (by omega) (HC.out.below HB4.out)).mono ?_
  rintro e w4' ⟨rfl, rfl⟩
  go_wp2_with fail
  refine (refSame_any ao ad co cp l l _ (by omega) (by omega) (owns_rowAt HO4.out) (HC.out.below HB4.out)).mono ?_
  rintro e w5 ⟨rfl, n5, rfl⟩
  have hss : sameB l l = true := by simp [sameB]
  rw [hss]
  clear hss
  go_wp2_with fail
  have HG0 := Lib.hid (owns_below HO4.out (below_dr (Below.refl w4.heap.size w4) n5))
  have HGS := Lib.hid HB4.out.size
  go_loopw [9] (fun i wr => ∃ (k : Nat) (xs : List Value), k ≤ l.length ∧ i = .int .i64 k ∧ wr.ownsRow w.heap.size 21 1 (.slice ao l.length co) l.length xs ∧ (w4.drewN n5).grownBy wr (Value.slice ao l.length co).ownBlock) (fun i _ => l.length - (intOf i).toNat)
  case atStart => exact ⟨0, _, by omega, rfl, HG0.out, grown_refl _ _⟩
  case round =>
    obtain ⟨j, xs, hj, rfl, hox, hgx⟩ := hrel
    have HOX := Lib.hid hox
    have HGX := Lib.hid hgx
    clear hgx
    by_cases hlt : j < l.length
    · obtain ⟨g, c', hv, hg1, hg2⟩ := owns_form hox (by omega)
      cases hv
      obtain ⟨x, hx⟩ : ∃ x, xs[j]? = some x := ⟨_, List.getElem?_eq_getElem (by have := hox.1; omega)⟩
      have hcl : wr.cell? ⟨g, j, none⟩ = some x := (hox.cellAt j (by omega)).trans hx
      have hfz := hox.frozenAt j
      have HST := Lib.hid (hox.stored j (.int .i32 1))
      clear hox hx
      go_wp2_with fail
      go_roundw
      case rel => exact ⟨j + 1, _, by omega, by go_num, HST.out.1, grown_trans HGX.out HST.out.2⟩
      case measure => simp [intOf]; omega
    · obtain rfl : j = l.length := by omega
      have HBR := Lib.hid ((below_dr HB4.out n5).grown HGX.out HGS.out (fun k hk => ((owns_lt HO2.out) k hk).1))
      have ho1 := (show (w4.drewN n5).ownsRow _ _ _ _ _ _ from HV14.out).kept HGX.out (by
        cases h : v1.ownBlock with
        | none => exact .inl rfl
        | some q => right; intro e; have := (owns_lt HV14.out q h).1; have := (HLT.out q e.symm).2; omega)
      have ho2 := (show (w4.drewN n5).ownsRow _ _ _ _ _ _ from HV24.out).kept HGX.out (by
        cases h : v2.ownBlock with
        | none => exact .inl rfl
        | some q => right; intro e; have := (owns_lt HV24.out q h).1; have := (HLT.out q e.symm).2; omega)
      obtain ⟨a1, c1, rfl, hc1, _, _, hr1⟩ := owns_slice ho1
      obtain ⟨a2, c2, rfl, hc2, _, _, hr2⟩ := owns_slice ho2
      have HR1 := Lib.hid hr1
      have HR2 := Lib.hid hr2
      clear ho1 ho2 hr1 hr2 hox
      have hkc : k ≤ cp := by omega
      have hl1 : (l.take k).length = k := by simp; omega
      have hl2 : (l.drop k).length = l.length - k := by simp
      have HS1 := refSame_any a1 ad c1 cp (l.take k) (l.take k) wr (by omega) (by omega) HR1.out (by rw [runeCells_take]; exact rowAt_take (HC.out.below HBR.out) _)
      have HS2 := fun q => refSame_any a2 (tailAd ad cp k 1) c2 (cp - k) (l.drop k) (l.drop k) (wr.drewN q) (by omega) (by omega) HR2.out (by rw [runeCells_drop]; exact rowAt_drop (HC.out.below (below_dr HBR.out q)) (by simp [runeCells]) hlc (by omega))
      rw [hl1] at HS1
      rw [hl2] at HS2
      have hs1 : sameB (l.take k) (l.take k) = true := by simp [sameB]
      have hs2 : sameB (l.drop k) (l.drop k) = true := by simp [sameB]
      rw [hs1] at HS1
      rw [hs2] at HS2
      have HS1 := Lib.hid HS1
      have HS2 := Lib.hid HS2
      clear hs1 hs2 hl1 hl2
      have hsl := run_tail ad l.length cp k hkl
      go_wp2_with fail
      refine HS1.out.mono ?_
      rintro e w6 ⟨rfl, n6, rfl⟩
      go_wp2_with fail
      refine (HS2.out n6).mono ?_
      rintro e w7 ⟨rfl, n7, rfl⟩
      go_wp2_with fail
      go_ret
      exact ⟨rfl, below_dr HBR.out _⟩
end Go.Proofs.YtcjlkggdcnochaaDoor
