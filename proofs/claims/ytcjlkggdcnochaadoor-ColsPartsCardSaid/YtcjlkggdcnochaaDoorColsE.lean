/- Walks of cols.Cut and the reference's Cut. Conditions: the table lies as laid; lists of at most a million. -/
import Derived.Test.YtcjlkggdcnochaaDoorColsD
import Derived.Deep.RegionHeld3
namespace Go.Proofs.YtcjlkggdcnochaaDoor
open Go.RowKit

/-- where a list is cut -/
def IsCut (l : List Int) (n : Int) (k : Nat) : Prop := k ≤ l.length ∧ (∀ j, j < k → spanTo l (j + 1) ≤ n) ∧ (k = l.length ∨ n < spanTo l (k + 1))
theorem spanTo_mono (l : List Int) {i j : Nat} (h : i ≤ j) : spanTo l i ≤ spanTo l j := by
  induction j with
  | zero => obtain rfl : i = 0 := by omega
            omega
  | succ j ih =>
    by_cases e : i = j + 1
    · subst e; omega
    · have := ih (by omega); have := mxR_bd (l.getD j 0); rw [spanTo_succ]; omega

def tailAd (ad : Option Addr) (cp k sz : Nat) : Option Addr := if cp = k then ad else ad.map fun a => a.add (k * sz)
theorem rowAt_drop {w : World} {ad : Option Addr} {cs : List Value} (h : RowAt w ad cs) {n cp k : Nat} (hn : cs.length = n) (hcp : n ≤ cp) (hk : k ≤ n) : RowAt w (tailAd ad cp k 1) (cs.drop k) := by
  intro hne
  have hlt : k < n := by
    by_cases e : k < n
    · exact e
    · exact absurd (List.drop_eq_nil_of_le (by omega)) hne
  obtain ⟨b, off, rfl, hc⟩ := h (by intro e; subst e; simp at hne)
  refine ⟨b, off + k, ?_, fun j v hj => ?_⟩
  · unfold tailAd
    rw [if_neg (by omega)]
    simp only [Option.map_some, Nat.mul_one, Addr.add]
    split <;> simp_all
  · rw [List.getElem?_drop] at hj
    rw [Nat.add_assoc]; exact hc _ _ hj
theorem rowAt_take {w : World} {ad : Option Addr} {cs : List Value} (h : RowAt w ad cs) (k : Nat) : RowAt w ad (cs.take k) := by
  intro hne
  obtain ⟨b, off, rfl, hc⟩ := h (by intro e; subst e; simp at hne)
  refine ⟨b, off, rfl, fun j v hj => ?_⟩
  rw [List.getElem?_take] at hj
  split at hj
  · exact hc _ _ hj
  · cases hj
theorem runeCells_take (l : List Int) (k : Nat) : runeCells (l.take k) = (runeCells l).take k := by simp [runeCells]
theorem runeCells_drop (l : List Int) (k : Nat) : runeCells (l.drop k) = (runeCells l).drop k := by simp [runeCells]
theorem owns_base {w : World} {base base' : Nat} {e : TypeId} {sz : Nat} {v : Value} {n : Nat} {xs : List Value} (h : w.ownsRow base e sz v n xs) (hb : base' ≤ base) : w.ownsRow base' e sz v n xs := by
  refine ⟨h.1, ?_⟩
  rcases h.2 with h | ⟨g, cap, cur, hv, hg, r⟩
  · exact .inl h
  · exact .inr ⟨g, cap, cur, hv, by omega, r⟩

/-- what is left of a cut -/
def CutPost (l : List Int) (n : Int) (w : World) (e : Ending) (w' : World) : Prop := ∃ (k : Nat) (v1 v2 : Value), IsCut l n k ∧ e = .returned (.tuple #[v1, v2]) ∧ w'.ownsRow w.heap.size 21 1 v1 k (runeCells (l.take k)) ∧ w'.ownsRow w.heap.size 21 1 v2 (l.length - k) (runeCells (l.drop k)) ∧ Below w.heap.size w w'

set_option maxHeartbeats 2000000 in
theorem cut_any (ad : Option Addr) (cp : Nat) (l : List Int) (n : Int) (w : World) (ht : Tab w) (hl : l.length ≤ 1000000) (hcp : l.length ≤ cp) (hcp2 : cp ≤ 9223372036854775807) (hc : RowAt w ad (runeCells l)) (h0 : ad = none → l.length = 0 ∧ cp = 0) (hn1 : -9223372036854775808 ≤ n) (hn2 : n ≤ 9223372036854775807) :
    Calls Tryd.prog 12 #[.slice ad l.length cp, .int .i64 n] w (CutPost l n w) := by
  have HT := Lib.hid ht
  have HC := Lib.hid hc
  have H0 := Lib.hid h0
  clear ht hc h0
  go_enter Tryd.func12, Tryd.ntmps12
  go_wp2_with fail
  go_loopw [1, 6] (fun m i wr => ∃ k : Nat, k ≤ l.length ∧ i = .int .i64 k ∧ m = .int .i64 (n - spanTo l k) ∧ (∀ j, j < k → spanTo l (j + 1) ≤ n) ∧ Below w.heap.size w wr) (fun _ i _ => l.length - (intOf i).toNat)
  case atStart => exact ⟨0, by omega, rfl, by simp [spanTo], fun j hj => by omega, Below.refl _ _⟩
  case round =>
    obtain ⟨k, hk, rfl, rfl, hall, hb⟩ := hrel
    have HB := Lib.hid hb
    have HALL := Lib.hid hall
    clear hall
    obtain ⟨hsp1, hsp2⟩ := spanTo_bd l k
    by_cases hlt : k < l.length
    · obtain ⟨b, off, rfl, hlb, hcell⟩ := HC.out.rune hlt
      have hlc : wr.cell? ⟨b, off + k, none⟩ = some (.int .i32 (l.getD k 0)) := (hb.cell (p := ⟨b, off + k, none⟩) hlb).trans hcell
      have hlcB : ∀ W, Below wr.heap.size wr W → W.cell? ⟨b, off + k, none⟩ = some (.int .i32 (l.getD k 0)) := fun W hW => (hW.cell (p := ⟨b, off + k, none⟩) (block_lt_of_cell hlc)).trans hlc
      have HLB := Lib.hid hlcB
      clear hcell hb hlcB
      have HS := Lib.hid (spanTo_succ l k)
      have hm := mxR_bd (l.getD k 0)
      have HM := Lib.hid (show mxR (l.getD k 0) = if 0 < ofR (l.getD k 0) then ofR (l.getD k 0) else 0 from rfl)
      have hbd := ofR_bd (l.getD k 0)
      have hcon := fun W h => of_any (l.getD k 0) W h
      have HCON := Lib.hid hcon
      have HX : Hid (∀ q, q = spanTo l k + mxR (l.getD k 0) → q ≤ n → ∀ j, j < k + 1 → spanTo l (j + 1) ≤ n) := fun q hq hqn j hj => by
        by_cases e : j = k
        · subst e; rw [spanTo_succ, ← hq]; exact hqn
        · exact HALL.out j (by omega)
      clear hcon
      generalize hs : spanTo l k = s at *
      have HSS := Lib.hid hs
      clear hs
      generalize l.getD k 0 = c at *
      generalize ofR c = v at *
      have HB0 := Lib.hid (HT.out.below HB.out)
      by_cases hq : (if 0 < v then v else 0) ≤ n - s
      · have HQ := Lib.hid hq
        have hmn : mxR c ≤ n - s := by rw [HM.out]; exact hq
        have HE : Hid (n - (s + mxR c) = n - s - (if 0 < v then v else 0)) := by rw [HM.out]; show _ = _; omega
        by_cases hv : 0 < v
        all_goals
          simp only [hv, if_true, if_false] at hq
          go_wp2_with fail
          refine (HCON.out _ HB0.out).mono ?_
          rintro e w1 ⟨rfl, hb1⟩
          have hl1 := HLB.out _ hb1
          have HB1 := Lib.hid (HB.out.trans (hb1.mono HB.out.size))
          have HT1 := Lib.hid (HB0.out.below hb1)
          clear hb1
          go_wp2_with fail
          refine (HCON.out _ HT1.out).mono ?_
          rintro e w2 ⟨rfl, hb2⟩
          have HB2 := Lib.hid (HB1.out.trans (hb2.mono HB1.out.size))
          clear hb2
          go_wp2_with fail
          go_roundw
          case rel => exact ⟨k + 1, by omega, by go_num, by rw [HS.out, HE.out]; first | rw [if_pos (by omega)] | rw [if_neg (by omega), Int.sub_zero], HX.out _ rfl (by omega), HB2.out⟩
          case measure => simp [intOf]; omega
      · have hq' : ¬ (n - s ≥ mxR c) := by rw [HM.out]; omega
        have HIC : Hid (IsCut l n k) := ⟨by omega, HALL.out, .inr (by rw [HS.out]; omega)⟩
        by_cases hv : 0 < v
        all_goals
          simp only [hv, if_true, if_false] at hq
          go_wp2_with fail
          refine (HCON.out _ HB0.out).mono ?_
          rintro e w1 ⟨rfl, hb1⟩
          have HB1 := Lib.hid (HB.out.trans (hb1.mono HB.out.size))
          clear hb1
          go_wp2_with fail
          generalize (some (⟨b, off, none⟩ : Addr)) = ad at *
          have HBD := Lib.hid (HB1.out.drew)
          have hkc : k ≤ cp := by omega
          refine wp_region_noPanic ?_
          refine wp_region_held_drew (S := fun V => Below w.heap.size w V) (by kernel_rfl) HBD.out (fun hHeld => ?_)
          refine wpAnyH_take (i := 0) (v := _) rfl (by kernel_rfl) (by kernel_rfl) (by kernel_rfl) (fun _ _ _ h => h) (Or.inl ⟨by rfl, fun _ _ => rfl⟩) hHeld ?_
          refine wpAnyH_take (i := 1) (v := _) rfl (by kernel_rfl) (by kernel_rfl) (by kernel_rfl) (fun _ _ _ h => h) (Or.inl ⟨by rfl, fun _ _ => rfl⟩) hHeld ?_
          refine wpAnyH_take (i := 4) (v := _) rfl (by kernel_rfl) (by kernel_rfl) (by kernel_rfl) (fun _ _ _ h => h) (Or.inl ⟨by rfl, fun _ _ => rfl⟩) hHeld ?_
          refine wpAnyH_take (i := 5) (v := _) rfl (by kernel_rfl) (by kernel_rfl) (by kernel_rfl) (fun _ _ _ h => h) (Or.inl ⟨by rfl, fun _ _ => rfl⟩) hHeld ?_
          simp only [Act.put]
          refine wpAnyH_take (i := 2) (v := .slice ad k cp) rfl (by kernel_rfl) (by kernel_rfl) (by kernel_rfl) (fun _ _ _ h => h) (Or.inl ⟨by rfl, fun w' hw' => by go_simp⟩) hHeld ?_
          refine wpAnyH_take (i := 6) (v := .slice (tailAd ad cp k 1) (l.length - k) (cp - k)) rfl (by kernel_rfl) (by kernel_rfl) (by kernel_rfl) (fun _ _ _ h => h) (Or.inl ⟨by rfl, fun w' hw' => by go_simp; simp [tailAd]⟩) hHeld ?_
          simp only [Act.put]
          refine wpAnyH_ready (rs := [3]) (by kernel_rfl) (by simp) (AllReadyH.cons rfl (fun K hK => ?_) AllReadyH.nil)
          rw [if_pos (by rfl)]
          go_simp
          refine (clone_any ad k cp (l.take k) _ (by simp; omega) (by simp; omega) (by rw [runeCells_take]; exact rowAt_take (HC.out.below HBD.out) _) (by intro h; have := H0.out h; omega)).mono ?_
          rintro e w5 ⟨v1, rfl, ho1, hg1⟩
          have hb5 := HBD.out.trans ((below_of_grown hg1).mono HBD.out.size)
          refine hK.out _ _ hb5 (fun hHeld => ?_)
          clear hK K
          refine wpAnyH_ready (rs := [7]) (by kernel_rfl) (by simp) (AllReadyH.cons rfl (fun K hK => ?_) AllReadyH.nil)
          rw [if_pos (by rfl)]
          go_simp
          refine (clone_any (tailAd ad cp k 1) (l.length - k) (cp - k) (l.drop k) _ (by simp) (by simp; omega) (by rw [runeCells_drop]; exact rowAt_drop (HC.out.below hb5) (by simp [runeCells]) hcp (by omega)) (by intro h; unfold tailAd at h; split at h; (have := H0.out h; omega); (have := H0.out (by simpa using h); omega))).mono ?_
          rintro e w6 ⟨v2, rfl, ho2, hg2⟩
          have hb6 := hb5.trans ((below_of_grown hg2).mono hb5.size)
          refine hK.out _ _ hb6 (fun hHeld => ?_)
          clear hK K
          refine wpAnyH_ready (rs := [8]) (by kernel_rfl) (by simp) (AllReadyH.cons rfl (fun K hK => ?_) AllReadyH.nil)
          rw [if_pos (by rfl)]
          go_simp
          refine hK.out _ _ hHeld (fun hHeld => ?_)
          clear hK K
          refine wpAnyH_ready (rs := [9]) (by kernel_rfl) (by simp) (AllReadyH.cons rfl (fun K hK => ?_) AllReadyH.nil)
          rw [if_pos (by rfl)]
          go_simp
          refine hK.out _ _ hHeld (fun hHeld => ?_)
          clear hK K
          refine wpAnyH_done (by kernel_rfl) ?_ _
          refine NoPanic.normal ?_
          go_wp2_with fail
          go_ret2
          have o1 := (ho1.kept hg2 (by cases v1.ownBlock <;> simp))
          simp only [List.length_take, List.length_drop] at o1 ho2
          rw [Nat.min_eq_left (by omega)] at o1
          exact ⟨k, v1, v2, HIC.out, rfl, owns_base o1 HBD.out.size, owns_base ho2 hb5.size, hb6⟩
    · have HKL := Lib.hid (show k = l.length by omega)
      have hkc : k ≤ cp := by omega
      have HIC : Hid (IsCut l n k) := ⟨by omega, HALL.out, .inl HKL.out⟩
      clear hb
      go_wp2_with fail
      have HBD := Lib.hid (HB.out.drew)
      refine wp_region_noPanic ?_
      refine wp_region_held_drew (S := fun V => Below w.heap.size w V) (by kernel_rfl) HBD.out (fun hHeld => ?_)
      refine wpAnyH_take (i := 0) (v := _) rfl (by kernel_rfl) (by kernel_rfl) (by kernel_rfl) (fun _ _ _ h => h) (Or.inl ⟨by rfl, fun _ _ => rfl⟩) hHeld ?_
      refine wpAnyH_take (i := 1) (v := _) rfl (by kernel_rfl) (by kernel_rfl) (by kernel_rfl) (fun _ _ _ h => h) (Or.inl ⟨by rfl, fun _ _ => rfl⟩) hHeld ?_
      refine wpAnyH_take (i := 4) (v := _) rfl (by kernel_rfl) (by kernel_rfl) (by kernel_rfl) (fun _ _ _ h => h) (Or.inl ⟨by rfl, fun _ _ => rfl⟩) hHeld ?_
      refine wpAnyH_take (i := 5) (v := _) rfl (by kernel_rfl) (by kernel_rfl) (by kernel_rfl) (fun _ _ _ h => h) (Or.inl ⟨by rfl, fun _ _ => rfl⟩) hHeld ?_
      simp only [Act.put]
      refine wpAnyH_take (i := 2) (v := .slice ad k cp) rfl (by kernel_rfl) (by kernel_rfl) (by kernel_rfl) (fun _ _ _ h => h) (Or.inl ⟨by rfl, fun w' hw' => by go_simp⟩) hHeld ?_
      refine wpAnyH_take (i := 6) (v := .slice (tailAd ad cp k 1) (l.length - k) (cp - k)) rfl (by kernel_rfl) (by kernel_rfl) (by kernel_rfl) (fun _ _ _ h => h) (Or.inl ⟨by rfl, fun w' hw' => by go_simp; simp [tailAd]⟩) hHeld ?_
      simp only [Act.put]
      refine wpAnyH_ready (rs := [3]) (by kernel_rfl) (by simp) (AllReadyH.cons rfl (fun K hK => ?_) AllReadyH.nil)
      rw [if_pos (by rfl)]
      go_simp
      refine (clone_any ad k cp (l.take k) _ (by simp; omega) (by simp; omega) (by rw [runeCells_take]; exact rowAt_take (HC.out.below HBD.out) _) (by intro h; have := H0.out h; omega)).mono ?_
      rintro e w5 ⟨v1, rfl, ho1, hg1⟩
      have hb5 := HBD.out.trans ((below_of_grown hg1).mono HBD.out.size)
      refine hK.out _ _ hb5 (fun hHeld => ?_)
      clear hK K
      refine wpAnyH_ready (rs := [7]) (by kernel_rfl) (by simp) (AllReadyH.cons rfl (fun K hK => ?_) AllReadyH.nil)
      rw [if_pos (by rfl)]
      go_simp
      refine (clone_any (tailAd ad cp k 1) (l.length - k) (cp - k) (l.drop k) _ (by simp) (by simp; omega) (by rw [runeCells_drop]; exact rowAt_drop (HC.out.below hb5) (by simp [runeCells]) hcp (by omega)) (by intro h; unfold tailAd at h; split at h; (have := H0.out h; omega); (have := H0.out (by simpa using h); omega))).mono ?_
      rintro e w6 ⟨v2, rfl, ho2, hg2⟩
      have hb6 := hb5.trans ((below_of_grown hg2).mono hb5.size)
      refine hK.out _ _ hb6 (fun hHeld => ?_)
      clear hK K
      refine wpAnyH_ready (rs := [8]) (by kernel_rfl) (by simp) (AllReadyH.cons rfl (fun K hK => ?_) AllReadyH.nil)
      rw [if_pos (by rfl)]
      go_simp
      refine hK.out _ _ hHeld (fun hHeld => ?_)
      clear hK K
      refine wpAnyH_ready (rs := [9]) (by kernel_rfl) (by simp) (AllReadyH.cons rfl (fun K hK => ?_) AllReadyH.nil)
      rw [if_pos (by rfl)]
      go_simp
      refine hK.out _ _ hHeld (fun hHeld => ?_)
      clear hK K
      refine wpAnyH_done (by kernel_rfl) ?_ _
      refine NoPanic.normal ?_
      go_wp2_with fail
      go_ret2
      have o1 := (ho1.kept hg2 (by cases v1.ownBlock <;> simp))
      simp only [List.length_take, List.length_drop] at o1 ho2
      rw [Nat.min_eq_left (by omega)] at o1
      exact ⟨k, v1, v2, HIC.out, rfl, owns_base o1 HBD.out.size, owns_base ho2 hb5.size, hb6⟩
end Go.Proofs.YtcjlkggdcnochaaDoor
