/- The walk of the law SizeEdits. Conditions: none. -/
import Derived.Test.YtcjlkggdcnochaaSizeH
import Derived.Deep.DeepCutAuto
import Derived.Deep.CutBlock
namespace Go.Proofs.Ytcjlkggdcnochaa
open Go.RowKit

theorem heap_keep {W W' : World} {b : Nat} {o : Obj} (h : W.heap[b]? = some o) (hb : Below W.heap.size W W') : W'.heap[b]? = some o := (hb.block b (Array.getElem?_eq_some_iff.1 h).1).trans h
theorem rangeAt_setRow {w : World} {b o : Nat} {cs : List Value} (h : w.rangeAt b o cs) (g : Nat) (c : Array Value) (hne : b ≠ g) : (w.setRow g c).rangeAt b o cs := fun j v hj =>
  (World.cell?_of_block (w := w) (setRow_other w g b c hne)).trans (h j v hj)
/-- three blocks that are kept -/
structure Keep3 (b0 b1 b2 : Nat) (o0 o1 o2 : Obj) (W : World) : Prop where
  k0 : W.heap[b0]? = some o0
  k1 : W.heap[b1]? = some o1
  k2 : W.heap[b2]? = some o2
theorem Keep3.below {b0 b1 b2 : Nat} {o0 o1 o2 : Obj} {W W' : World} (h : Keep3 b0 b1 b2 o0 o1 o2 W) (hb : Below W.heap.size W W') : Keep3 b0 b1 b2 o0 o1 o2 W' := ⟨heap_keep h.k0 hb, heap_keep h.k1 hb, heap_keep h.k2 hb⟩

theorem neq_bool_same (b : Bool) (w : World) : (binOp .neq 4 (.bool b) (.bool b)).run Try.prog w = .ok (.bool false) w := by
  rw [run_neq_bool w _ _ _ Try.underlying4]; simp

set_option maxHeartbeats 4000000 in
set_option maxRecDepth 100000 in
theorem law_SizeEdits (x : Nat → Int) (id rows cols : Int) (w : World) :
    Calls Try.prog 5 #[.agg (winCells x), .int .i64 id, .int .i64 rows, .int .i64 cols] w fun e w' => e = .returned (.bool true) ∧ Below w.heap.size w w' := by
  have hset : ∀ W, Calls Try.prog 11 #[.agg (winCells x), .int .i64 id, .int .i64 rows, .int .i64 cols] W fun e w' =>
      e = .returned (.tuple #[.agg (winCells (if setOk x id rows cols = true then winSet x id rows cols else winZero)), .int .i64 (if setOk x id rows cols = true then 0 else 2)]) ∧ Below W.heap.size W w' := fun W => set_any x id rows cols W
  have hclr : ∀ W, Calls Try.prog 12 #[.agg (winCells x), .int .i64 id] W fun e w' =>
      e = .returned (.tuple #[.agg (winCells (if clearOk x id = true then winSet x id 0 0 else winZero)), .int .i64 (if clearOk x id = true then 0 else 2)]) ∧ Below W.heap.size W w' := fun W => by
    by_cases h : clearOk x id = true
    · simp only [h, if_true]; exact clear_good x id W h
    · simp only [h]; exact clear_bad x id W (by simpa using h)
  have HMAY := Lib.hid (may_any x)
  have HRMAY := Lib.hid (refMay_any x)
  have HWS := Lib.hid (winCells_set x id rows cols)
  have HWC := Lib.hid (winCells_set x id 0 0)
  have HEZ := Lib.hid (show ∀ W, (binOp .eql 24 (.agg (winCells winZero)) (.agg #[.int .i64 0, .int .i64 0, .int .i64 0, .int .i64 0, .int .i64 0, .int .i64 0, .int .i64 0, .int .i64 0, .int .i64 0, .int .i64 0, .int .i64 0, .int .i64 0, .int .i64 0, .int .i64 0, .int .i64 0, .int .i64 0, .int .i64 0, .int .i64 0])).run Try.prog W = .ok (.bool true) W from eql_win winZero)
  have HL : ∀ y : Nat → Int, Hid ((Try.prog.info? 24).map (·.size) = some (winL y).length) := fun y => by rw [winL_length]; exact winInfo
  have HI : ∀ y : Nat → Int, Hid ((Try.prog.info? 24).map (·.size) = some (winCells y).size) := fun y => by rw [winCells_size]; exact winInfo
  have HO : ∀ y : Nat → Int, Hid ((winCells y).all (·.oneCell') = true) := fun y => winCells_one y
  generalize hA : (if setOk x id rows cols = true then winSet x id rows cols else winZero) = ya at *
  generalize hB : (if clearOk x id = true then winSet x id 0 0 else winZero) = yb at *
  generalize hea : (if setOk x id rows cols = true then (0 : Int) else 2) = ea at *
  generalize heb : (if clearOk x id = true then (0 : Int) else 2) = eb at *
  have HA := Lib.hid hA
  have HB := Lib.hid hB
  have HEA := Lib.hid hea
  have HEB := Lib.hid heb
  clear hA hB hea heb
  have HSET := Lib.hid hset
  have HCLR := Lib.hid hclr
  clear hset hclr
  go_enter Try.func5, Try.ntmps5
  go_wp2_with (first
    | (refine wpList_load_row rfl 24 (.tmp 4) rfl w.heap.size rfl 24 (winCells x) (0, 0) _ (heap_alloc_new _ _) Try.underlying24 rfl (HI x).out ?_))
  refine (HSET.out _).mono ?_
  rintro e w1 ⟨rfl, hb1⟩
  have hx1 := heap_keep (heap_alloc_new w (.cells (winCells x) 24)) hb1
  have HX1 := Lib.hid hx1
  have HB1 := Lib.hid (((Below.refl _ _).alloc (Nat.le_refl _) _).trans (hb1.mono (by simp)))
  clear hx1 hb1
  go_wp2_with (first
    | (refine wpList_load_row rfl 24 (.tmp 4) rfl w.heap.size rfl 24 (winCells x) (0, 0) _ ((setRow_other _ _ _ _ (by have := (Array.getElem?_eq_some_iff.1 HX1.out).1; omega)).trans ((Below.heap_alloc _ _ _ (Array.getElem?_eq_some_iff.1 HX1.out).1).trans HX1.out)) Try.underlying24 rfl (HI x).out ?_)
    | (refine wpList_store_row rfl 24 (.tmp 9) (.tmp 21) rfl w1.heap.size (winCells ya) rfl rfl 24 _ (heap_alloc_new _ _) (HI ya).out (winCells_size ya).symm (HO ya).out ?_))
  refine (HCLR.out _).mono ?_
  rintro e w3 ⟨rfl, hb3⟩
  have hlt1 := (Array.getElem?_eq_some_iff.1 HX1.out).1
  have hx3 := heap_keep ((setRow_other _ _ _ _ (by omega)).trans ((Below.heap_alloc _ _ _ hlt1).trans HX1.out)) hb3
  have h93 := heap_keep (setRow_heap _ _ _ _ _ _ (heap_alloc_new _ _)) hb3
  have HB3 := Lib.hid ((below_setRow (HB1.out.alloc HB1.out.size _) HB1.out.size _).trans (hb3.mono (by have := HB1.out.size; simp; omega)))
  have hs3 := hb3.size
  simp only [size_setRow, World.size_alloc] at hs3
  have HX3 := Lib.hid hx3
  have H93 := Lib.hid h93
  clear hx3 h93 hb3 hlt1
  go_wp2_with (first
    | (refine wpList_store_row rfl 24 (.tmp 11) (.tmp 27) rfl w3.heap.size (winCells yb) rfl rfl 24 _ (heap_alloc_new _ _) (HI yb).out (winCells_size yb).symm (HO yb).out ?_))
  have hlt3 := (Array.getElem?_eq_some_iff.1 HX3.out).1
  have hk4 : Keep3 w.heap.size w1.heap.size w3.heap.size (.cells (winCells x) 24 (0, 0)) (.cells (winCells ya) 24 (0, 0)) (.cells (winCells yb) 24 (0, 0)) ((w3.alloc (.cells #[.int .i64 0, .int .i64 0, .int .i64 0, .int .i64 0, .int .i64 0, .int .i64 0, .int .i64 0, .int .i64 0, .int .i64 0, .int .i64 0, .int .i64 0, .int .i64 0, .int .i64 0, .int .i64 0, .int .i64 0, .int .i64 0, .int .i64 0, .int .i64 0] 24)).setRow w3.heap.size (winCells yb)) :=
    ⟨(setRow_other _ _ _ _ (by omega)).trans ((Below.heap_alloc _ _ _ hlt3).trans HX3.out), (setRow_other _ _ _ _ (by omega)).trans ((Below.heap_alloc _ _ _ (by omega)).trans H93.out), setRow_heap _ _ _ _ _ _ (heap_alloc_new _ _)⟩
  have hb4 : Below w.heap.size w ((w3.alloc (.cells #[.int .i64 0, .int .i64 0, .int .i64 0, .int .i64 0, .int .i64 0, .int .i64 0, .int .i64 0, .int .i64 0, .int .i64 0, .int .i64 0, .int .i64 0, .int .i64 0, .int .i64 0, .int .i64 0, .int .i64 0, .int .i64 0, .int .i64 0, .int .i64 0] 24)).setRow w3.heap.size (winCells yb)) := below_setRow (HB3.out.alloc HB3.out.size _) HB3.out.size _
  generalize World.setRow (World.alloc w3 _) w3.heap.size _ = w4 at *
  have HK4 := Lib.hid hk4
  have HB4 := Lib.hid hb4
  clear hk4 hb4
  refine wp_region_noPanic ?_
  refine wp_region_held_drew (S := Keep3 w.heap.size w1.heap.size w3.heap.size (.cells (winCells x) 24 (0, 0)) (.cells (winCells ya) 24 (0, 0)) (.cells (winCells yb) 24 (0, 0))) (by kernel_rfl) ⟨HK4.out.k0, HK4.out.k1, HK4.out.k2⟩ (fun hHeld => ?_)
  refine wpAnyH_take (i := 0) rfl (by kernel_rfl) (by kernel_rfl) (by kernel_rfl) (fun _ _ _ h => h) (yieldsIf_load_mid (by rfl) 24 (.tmp 4) rfl w.heap.size 0 rfl (winL x) _ (fun _ h => rangeAt_row h.k0) Try.underlying24 rfl (HL x).out) hHeld ?_
  refine wpAnyH_take (i := 2) rfl (by kernel_rfl) (by kernel_rfl) (by kernel_rfl) (fun _ _ _ h => h) (yieldsIf_load_mid (by rfl) 24 (.tmp 4) rfl w.heap.size 0 rfl (winL x) _ (fun _ h => rangeAt_row h.k0) Try.underlying24 rfl (HL x).out) hHeld ?_
  simp only [Act.put]
  refine wpAnyH_ready (rs := [1]) (by kernel_rfl) (by simp) (AllReadyH.cons rfl (fun K hK => ?_) AllReadyH.nil)
  rw [if_pos (by rfl)]
  go_simp
  refine (HMAY.out _).mono ?_
  rintro e w5 ⟨rfl, hb5⟩
  have hk5 := Keep3.below (W := w4.drew) hHeld hb5
  refine hK.out _ _ hk5 (fun hHeld => ?_)
  clear hK K
  refine wpAnyH_ready (rs := [3]) (by kernel_rfl) (by simp) (AllReadyH.cons rfl (fun K hK => ?_) AllReadyH.nil)
  rw [if_pos (by rfl)]
  go_simp
  refine (HRMAY.out _).mono ?_
  rintro e w6 ⟨rfl, rfl⟩
  have hk6 := Keep3.below hHeld ((Below.refl _ _).alloc (Nat.le_refl _) (.cells (winCells x) 24))
  refine hK.out _ _ hk6 (fun hHeld => ?_)
  clear hK K
  have hnb := neq_bool_same
  refine wpAnyH_ready (rs := [4]) (by kernel_rfl) (by simp) (AllReadyH.cons rfl (fun K hK => ?_) AllReadyH.nil)
  rw [if_pos (by rfl)]
  go_simp
  refine hK.out _ _ hk6 (fun hHeld => ?_)
  clear hK K hnb
  refine wpAnyH_done (by kernel_rfl) ?_ _
  refine NoPanic.normal ?_
  have hb6 := (HB4.out.drew.trans (hb5.mono HB4.out.size)).alloc (by have := (HB4.out.drew.trans (hb5.mono HB4.out.size)).size; exact this) (.cells (winCells x) 24)
  generalize World.alloc w5 _ = w6 at *
  have HK := Lib.hid hk6
  have HB6 := Lib.hid hb6
  clear hk6 hk5 hb5 hb6 hHeld
  have HK7 := Lib.hid (HK.out.below ((Below.refl _ _).alloc (Nat.le_refl _) (.cells (winCells x) 24)))
  have HB7 := Lib.hid (HB6.out.alloc HB6.out.size (.cells (winCells x) 24))
  by_cases hc : mayB x = true ∧ 1 ≤ id ∧ id ≤ 8
  · obtain ⟨hm, hi1, hi8⟩ := hc
    have hmem : memberB id = true := by simp [memberB, hi1, hi8]
    have hclr : clearOk x id = true := by simp [clearOk, hm, hmem]
    have hb0 := HEB.out
    rw [if_pos hclr] at hb0
    subst hb0
    have hbb := HB.out
    rw [if_pos hclr] at hbb
    subst hbb
    clear hclr
    go_wp2_with (first | (refine wpList_load_row rfl 24 (.tmp 4) rfl w.heap.size rfl 24 (winCells x) (0, 0) _ HK.out.k0 Try.underlying24 rfl (HI x).out ?_) | (go_at_call 13; refine (HRMAY.out _).mono ?_; rintro e w7 ⟨rfl, rfl⟩))
    generalize hw7 : World.alloc w6 _ = w7 at *
    clear hw7 HK HB6
    have HK := HK7
    clear HK7
    go_cut [13, 14] (fun s13 s14 wx => ∃ g h : Nat, s13 = .pointer (some ⟨g, 0, none⟩) ∧ s14 = .pointer (some ⟨h, 0, none⟩) ∧ g ≠ h ∧ w7.heap.size ≤ g ∧ w7.heap.size ≤ h ∧ wx.heap[g]? = some (.cells (winCells x) 24 (0, 0)) ∧ wx.heap[h]? = some (.cells (winCells x) 24 (0, 0)) ∧ Below w7.heap.size w7 wx)
    case first =>
      have hltB := (Array.getElem?_eq_some_iff.1 HK.out.k0).1
      refine wp_region_noPanic ?_
      refine wp_region_held_drew (S := fun W => W.rangeAt w.heap.size 0 (winL x)) (by kernel_rfl) (rangeAt_row HK.out.k0) (fun hHeld => ?_)
      refine wpAnyH_take (i := 0) rfl (by kernel_rfl) (by kernel_rfl) (by kernel_rfl) (fun _ _ _ h => h) (yieldsIf_load_mid (by rfl) 24 (.tmp 4) rfl w.heap.size 0 rfl (winL x) _ (fun _ h => h) Try.underlying24 rfl (HL x).out) hHeld ?_
      refine wpAnyH_take (i := 1) rfl (by kernel_rfl) (by kernel_rfl) (by kernel_rfl) (fun _ _ _ h => h) (yieldsIf_load_mid (by rfl) 24 (.tmp 4) rfl w.heap.size 0 rfl (winL x) _ (fun _ h => h) Try.underlying24 rfl (HL x).out) hHeld ?_
      simp only [Act.put]
      refine wpAnyH_ready (rs := [2, 3]) (by kernel_rfl) (by simp) (AllReadyH.cons rfl (fun K hK => ?_) (AllReadyH.cons rfl (fun K hK => ?_) AllReadyH.nil))
      · rw [if_pos (by rfl)]
        go_simp
        refine hK.out _ _ (rangeAt_alloc hHeld _) (fun hHeld => ?_)
        clear hK K
        refine wpAnyH_ready (rs := [3]) (by kernel_rfl) (by simp) (AllReadyH.cons rfl (fun K hK => ?_) AllReadyH.nil)
        rw [if_pos (by rfl)]
        go_simp
        refine hK.out _ _ (rangeAt_alloc hHeld _) (fun hHeld => ?_)
        clear hK K
        have z0 := heap_alloc2_old w7 (.cells #[.int .i64 0, .int .i64 0, .int .i64 0, .int .i64 0, .int .i64 0, .int .i64 0, .int .i64 0, .int .i64 0, .int .i64 0, .int .i64 0, .int .i64 0, .int .i64 0, .int .i64 0, .int .i64 0, .int .i64 0, .int .i64 0, .int .i64 0, .int .i64 0] 24) (.cells #[.int .i64 0, .int .i64 0, .int .i64 0, .int .i64 0, .int .i64 0, .int .i64 0, .int .i64 0, .int .i64 0, .int .i64 0, .int .i64 0, .int .i64 0, .int .i64 0, .int .i64 0, .int .i64 0, .int .i64 0, .int .i64 0, .int .i64 0, .int .i64 0] 24)
        have z1 := heap_alloc2_new w7 (.cells #[.int .i64 0, .int .i64 0, .int .i64 0, .int .i64 0, .int .i64 0, .int .i64 0, .int .i64 0, .int .i64 0, .int .i64 0, .int .i64 0, .int .i64 0, .int .i64 0, .int .i64 0, .int .i64 0, .int .i64 0, .int .i64 0, .int .i64 0, .int .i64 0] 24) (.cells #[.int .i64 0, .int .i64 0, .int .i64 0, .int .i64 0, .int .i64 0, .int .i64 0, .int .i64 0, .int .i64 0, .int .i64 0, .int .i64 0, .int .i64 0, .int .i64 0, .int .i64 0, .int .i64 0, .int .i64 0, .int .i64 0, .int .i64 0, .int .i64 0] 24)
        have zb := below_alloc2 w7 (.cells #[.int .i64 0, .int .i64 0, .int .i64 0, .int .i64 0, .int .i64 0, .int .i64 0, .int .i64 0, .int .i64 0, .int .i64 0, .int .i64 0, .int .i64 0, .int .i64 0, .int .i64 0, .int .i64 0, .int .i64 0, .int .i64 0, .int .i64 0, .int .i64 0] 24) (.cells #[.int .i64 0, .int .i64 0, .int .i64 0, .int .i64 0, .int .i64 0, .int .i64 0, .int .i64 0, .int .i64 0, .int .i64 0, .int .i64 0, .int .i64 0, .int .i64 0, .int .i64 0, .int .i64 0, .int .i64 0, .int .i64 0, .int .i64 0, .int .i64 0] 24)
        generalize hw9 : World.alloc (World.alloc w7 _) _ = w9 at *
        clear hw9
        refine wpAnyH_ready (rs := [4]) (by kernel_rfl) (by simp) (AllReadyH.cons rfl (fun K hK => ?_) AllReadyH.nil)
        rw [if_pos (by rfl)]
        refine wp_store_row 24 (.tmp 13) (.tmp 64) rfl w7.heap.size (winCells x) rfl rfl 24 _ z0 (HI x).out (winCells_size x).symm (HO x).out ?_
        refine hK.out _ _ (rangeAt_setRow hHeld _ _ (by omega)) (fun hHeld => ?_)
        clear hK K
        refine wpAnyH_ready (rs := [5]) (by kernel_rfl) (by simp) (AllReadyH.cons rfl (fun K hK => ?_) AllReadyH.nil)
        rw [if_pos (by rfl)]
        refine wp_store_row 24 (.tmp 14) (.tmp 65) rfl (w7.heap.size + 1) (winCells x) rfl rfl 24 _ ((setRow_other _ _ _ _ (by simp)).trans z1) (HI x).out (winCells_size x).symm (HO x).out ?_
        refine hK.out _ _ (rangeAt_setRow hHeld _ _ (by omega)) (fun hHeld => ?_)
        clear hK K
        refine wpAnyH_done (by kernel_rfl) ?_ _
        refine NoPanic.normal ?_
        go_wp2_with fail
        go_meet
        exact ⟨w7.heap.size, (w7.heap.size + 1), rfl, rfl, by simp, by omega, by omega, ((setRow_other _ _ _ _ (by simp)).trans (setRow_heap _ _ _ _ _ _ z0)), (setRow_heap _ _ _ _ _ _ ((setRow_other _ _ _ _ (by simp)).trans z1)), (below_setRow (below_setRow zb.drew (by omega) _) (by omega) _)⟩
      · rw [if_pos (by rfl)]
        go_simp
        refine hK.out _ _ (rangeAt_alloc hHeld _) (fun hHeld => ?_)
        clear hK K
        refine wpAnyH_ready (rs := [2]) (by kernel_rfl) (by simp) (AllReadyH.cons rfl (fun K hK => ?_) AllReadyH.nil)
        rw [if_pos (by rfl)]
        go_simp
        refine hK.out _ _ (rangeAt_alloc hHeld _) (fun hHeld => ?_)
        clear hK K
        have z0 := heap_alloc2_old w7 (.cells #[.int .i64 0, .int .i64 0, .int .i64 0, .int .i64 0, .int .i64 0, .int .i64 0, .int .i64 0, .int .i64 0, .int .i64 0, .int .i64 0, .int .i64 0, .int .i64 0, .int .i64 0, .int .i64 0, .int .i64 0, .int .i64 0, .int .i64 0, .int .i64 0] 24) (.cells #[.int .i64 0, .int .i64 0, .int .i64 0, .int .i64 0, .int .i64 0, .int .i64 0, .int .i64 0, .int .i64 0, .int .i64 0, .int .i64 0, .int .i64 0, .int .i64 0, .int .i64 0, .int .i64 0, .int .i64 0, .int .i64 0, .int .i64 0, .int .i64 0] 24)
        have z1 := heap_alloc2_new w7 (.cells #[.int .i64 0, .int .i64 0, .int .i64 0, .int .i64 0, .int .i64 0, .int .i64 0, .int .i64 0, .int .i64 0, .int .i64 0, .int .i64 0, .int .i64 0, .int .i64 0, .int .i64 0, .int .i64 0, .int .i64 0, .int .i64 0, .int .i64 0, .int .i64 0] 24) (.cells #[.int .i64 0, .int .i64 0, .int .i64 0, .int .i64 0, .int .i64 0, .int .i64 0, .int .i64 0, .int .i64 0, .int .i64 0, .int .i64 0, .int .i64 0, .int .i64 0, .int .i64 0, .int .i64 0, .int .i64 0, .int .i64 0, .int .i64 0, .int .i64 0] 24)
        have zb := below_alloc2 w7 (.cells #[.int .i64 0, .int .i64 0, .int .i64 0, .int .i64 0, .int .i64 0, .int .i64 0, .int .i64 0, .int .i64 0, .int .i64 0, .int .i64 0, .int .i64 0, .int .i64 0, .int .i64 0, .int .i64 0, .int .i64 0, .int .i64 0, .int .i64 0, .int .i64 0] 24) (.cells #[.int .i64 0, .int .i64 0, .int .i64 0, .int .i64 0, .int .i64 0, .int .i64 0, .int .i64 0, .int .i64 0, .int .i64 0, .int .i64 0, .int .i64 0, .int .i64 0, .int .i64 0, .int .i64 0, .int .i64 0, .int .i64 0, .int .i64 0, .int .i64 0] 24)
        generalize hw9 : World.alloc (World.alloc w7 _) _ = w9 at *
        clear hw9
        refine wpAnyH_ready (rs := [4]) (by kernel_rfl) (by simp) (AllReadyH.cons rfl (fun K hK => ?_) AllReadyH.nil)
        rw [if_pos (by rfl)]
        refine wp_store_row 24 (.tmp 13) (.tmp 64) rfl (w7.heap.size + 1) (winCells x) rfl rfl 24 _ z1 (HI x).out (winCells_size x).symm (HO x).out ?_
        refine hK.out _ _ (rangeAt_setRow hHeld _ _ (by omega)) (fun hHeld => ?_)
        clear hK K
        refine wpAnyH_ready (rs := [5]) (by kernel_rfl) (by simp) (AllReadyH.cons rfl (fun K hK => ?_) AllReadyH.nil)
        rw [if_pos (by rfl)]
        refine wp_store_row 24 (.tmp 14) (.tmp 65) rfl w7.heap.size (winCells x) rfl rfl 24 _ ((setRow_other _ _ _ _ (by simp)).trans z0) (HI x).out (winCells_size x).symm (HO x).out ?_
        refine hK.out _ _ (rangeAt_setRow hHeld _ _ (by omega)) (fun hHeld => ?_)
        clear hK K
        refine wpAnyH_done (by kernel_rfl) ?_ _
        refine NoPanic.normal ?_
        go_wp2_with fail
        go_meet
        exact ⟨(w7.heap.size + 1), w7.heap.size, rfl, rfl, by simp, by omega, by omega, ((setRow_other _ _ _ _ (by simp)).trans (setRow_heap _ _ _ _ _ _ z1)), (setRow_heap _ _ _ _ _ _ ((setRow_other _ _ _ _ (by simp)).trans z0)), (below_setRow (below_setRow zb.drew (by omega) _) (by omega) _)⟩
    case rest =>
      obtain ⟨g, h, rfl, rfl, hne, hg, hh, hcg, hch, hbc⟩ := hcut
      have hkB := (Array.getElem?_eq_some_iff.1 HK.out.k0).1
      have hk9 := (Array.getElem?_eq_some_iff.1 HK.out.k1).1
      have hk11 := (Array.getElem?_eq_some_iff.1 HK.out.k2).1
      have cg0 := (cell_of_row wc g (id.toNat * 2) _ _ _ hcg).trans (winCells_get x _ (by omega))
      have cg1 := (cell_of_row wc g (id.toNat * 2 + 1) _ _ _ hcg).trans (winCells_get x _ (by omega))
      have fg := fun j => frozen_row wc g j _ _ hcg
      have hch2 : ((wc.setCell ⟨g, id.toNat * 2, none⟩ (.int .i64 rows)).setCell ⟨g, id.toNat * 2 + 1, none⟩ (.int .i64 cols)).heap[h]? = some (.cells (winCells x) 24 (0, 0)) := (heap_setCell_other _ _ _ _ (by exact fun e => hne e.symm)).trans ((heap_setCell_other _ _ _ _ (by exact fun e => hne e.symm)).trans hch)
      have ch0 := (cell_of_row _ h (id.toNat * 2) _ _ _ hch2).trans (winCells_get x _ (by omega))
      have ch1 := (cell_of_row _ h (id.toNat * 2 + 1) _ _ _ hch2).trans (winCells_get x _ (by omega))
      have fh := fun j => frozen_row _ h j _ _ hch2
      have H3h : Hid (((((wc.setCell ⟨g, id.toNat * 2, none⟩ (.int .i64 rows)).setCell ⟨g, id.toNat * 2 + 1, none⟩ (.int .i64 cols)).setCell ⟨h, id.toNat * 2, none⟩ (.int .i64 0)).setCell ⟨h, id.toNat * 2 + 1, none⟩ (.int .i64 0)).heap[h]? = some (.cells (winCells (winSet x id 0 0)) 24 (0, 0))) := by rw [← HWC.out]; exact heap_setCell_same _ _ _ _ _ _ (heap_setCell_same _ _ _ _ _ _ hch2)
      have H3g : Hid (((((wc.setCell ⟨g, id.toNat * 2, none⟩ (.int .i64 rows)).setCell ⟨g, id.toNat * 2 + 1, none⟩ (.int .i64 cols)).setCell ⟨h, id.toNat * 2, none⟩ (.int .i64 0)).setCell ⟨h, id.toNat * 2 + 1, none⟩ (.int .i64 0)).heap[g]? = some (.cells (winCells (winSet x id rows cols)) 24 (0, 0))) := by rw [← HWS.out]; exact (heap_setCell_other _ _ _ _ (by exact hne)).trans ((heap_setCell_other _ _ _ _ (by exact hne)).trans (heap_setCell_same _ _ _ _ _ _ (heap_setCell_same _ _ _ _ _ _ hcg)))
      have HB3 := Lib.hid (show Below w7.heap.size w7 ((((wc.setCell ⟨g, id.toNat * 2, none⟩ (.int .i64 rows)).setCell ⟨g, id.toNat * 2 + 1, none⟩ (.int .i64 cols)).setCell ⟨h, id.toNat * 2, none⟩ (.int .i64 0)).setCell ⟨h, id.toNat * 2 + 1, none⟩ (.int .i64 0)) from (((hbc.setCell hg _).setCell hg _).setCell hh _).setCell hh _)
      have HK3 := Lib.hid (HK.out.below HB3.out)
      have HBF := Lib.hid (HB7.out.trans (HB3.out.mono HB7.out.size))
      clear hcg hch hch2 hbc hkB hk9 hk11
      have hez := HEZ.out
      have hnw := neq_win (winSet x id 0 0)
      have hew := eql_win (winSet x id rows cols)
      by_cases hs : 1 ≤ rows ∧ rows ≤ 1000 ∧ 1 ≤ cols ∧ cols ≤ 1000
      · obtain ⟨hr1, hr2, hc1, hc2⟩ := hs
        have hok : setOk x id rows cols = true := by simp [setOk, hm, hmem, sideB, hr1, hr2, hc1, hc2]
        have ea0 := HEA.out
        rw [if_pos hok] at ea0
        subst ea0
        have ya0 := HA.out
        rw [if_pos hok] at ya0
        subst ya0
        clear hok
        go_wp2_with (first | (with_reducible (show wpList _ _ _ (⟨some 77, _, _, _, _, _⟩ :: _) _ _); refine wpList_load_row_g rfl 24 (.tmp 11) rfl w3.heap.size rfl 24 (winCells (winSet x id 0 0)) (0, 0) _ HK3.out.k2 Try.underlying24 rfl (HI (winSet x id 0 0)).out ?_) | (with_reducible (show wpList _ _ _ (⟨some 78, _, _, _, _, _⟩ :: _) _ _); refine wpList_load_row_g rfl 24 (.tmp 14) rfl h rfl 24 (winCells (winSet x id 0 0)) (0, 0) _ H3h.out Try.underlying24 rfl (HI (winSet x id 0 0)).out ?_) | (with_reducible (show wpList _ _ _ (⟨some 108, _, _, _, _, _⟩ :: _) _ _); refine wpList_load_row_g rfl 24 (.tmp 9) rfl w1.heap.size rfl 24 (winCells (winSet x id rows cols)) (0, 0) _ HK3.out.k1 Try.underlying24 rfl (HI (winSet x id rows cols)).out ?_) | (with_reducible (show wpList _ _ _ (⟨some 109, _, _, _, _, _⟩ :: _) _ _); refine wpList_load_row_g rfl 24 (.tmp 13) rfl g rfl 24 (winCells (winSet x id rows cols)) (0, 0) _ H3g.out Try.underlying24 rfl (HI (winSet x id rows cols)).out ?_) | (go_at_call 7; refine (known29_any _).mono ?_; rintro e w8 ⟨rfl, hb8⟩; have HB8 := Lib.hid hb8; clear hb8))
        go_ret
        exact ⟨rfl, HBF.out.trans (HB8.out.mono HBF.out.size)⟩
      · have hok : ¬ setOk x id rows cols = true := by simp only [setOk, sideB, Bool.and_eq_true, decide_eq_true_eq]; intro q; exact hs ⟨q.2.2.1.1, q.2.2.1.2, q.2.2.2.1, q.2.2.2.2⟩
        have ea0 := HEA.out
        rw [if_neg hok] at ea0
        subst ea0
        have ya0 := HA.out
        rw [if_neg hok] at ya0
        subst ya0
        clear hok
        have hcase : rows < 1 ∨ (1 ≤ rows ∧ 1000 < rows) ∨ (1 ≤ rows ∧ rows ≤ 1000 ∧ cols < 1) ∨ (1 ≤ rows ∧ rows ≤ 1000 ∧ 1 ≤ cols ∧ 1000 < cols) := by omega
        clear hs
        rcases hcase with s1 | ⟨s1, s2⟩ | ⟨s1, s2, s3⟩ | ⟨s1, s2, s3, s4⟩
        all_goals
          go_wp2_with (first | (with_reducible (show wpList _ _ _ (⟨some 77, _, _, _, _, _⟩ :: _) _ _); refine wpList_load_row_g rfl 24 (.tmp 11) rfl w3.heap.size rfl 24 (winCells (winSet x id 0 0)) (0, 0) _ HK3.out.k2 Try.underlying24 rfl (HI (winSet x id 0 0)).out ?_) | (with_reducible (show wpList _ _ _ (⟨some 78, _, _, _, _, _⟩ :: _) _ _); refine wpList_load_row_g rfl 24 (.tmp 14) rfl h rfl 24 (winCells (winSet x id 0 0)) (0, 0) _ H3h.out Try.underlying24 rfl (HI (winSet x id 0 0)).out ?_) | (with_reducible (show wpList _ _ _ (⟨some 98, _, _, _, _, _⟩ :: _) _ _); refine wpList_load_row_g rfl 24 (.tmp 9) rfl w1.heap.size rfl 24 (winCells winZero) (0, 0) _ HK3.out.k1 Try.underlying24 rfl (HI winZero).out ?_) | (go_at_call 7; refine (known29_any _).mono ?_; rintro e w8 ⟨rfl, hb8⟩; have HB8 := Lib.hid hb8; clear hb8))
          go_ret
          exact ⟨rfl, HBF.out.trans (HB8.out.mono HBF.out.size)⟩
  · have hea : ea = 2 ∧ eb = 2 ∧ ya = winZero ∧ yb = winZero := by
      have n1 : ¬ setOk x id rows cols = true := by simp only [setOk, memberB, Bool.and_eq_true, decide_eq_true_eq]; intro h; exact hc ⟨h.1, h.2.1.1, h.2.1.2⟩
      have n2 : ¬ clearOk x id = true := by simp only [clearOk, memberB, Bool.and_eq_true, decide_eq_true_eq]; intro h; exact hc ⟨h.1, h.2.1, h.2.2⟩
      exact ⟨by rw [← HEA.out, if_neg n1], by rw [← HEB.out, if_neg n2], by rw [← HA.out, if_neg n1], by rw [← HB.out, if_neg n2]⟩
    obtain ⟨rfl, rfl, rfl, rfl⟩ := hea
    have hez := HEZ.out
    have hcase : mayB x = false ∨ (mayB x = true ∧ id < 1) ∨ (mayB x = true ∧ 1 ≤ id ∧ 8 < id) := by
      by_cases h1 : mayB x = true
      · by_cases h2 : 1 ≤ id
        · exact .inr (.inr ⟨h1, h2, by by_cases h3 : id ≤ 8; exact absurd ⟨h1, h2, h3⟩ hc; omega⟩)
        · exact .inr (.inl ⟨h1, by omega⟩)
      · exact .inl (by simpa using h1)
    clear hc
    rcases hcase with h1 | ⟨h1, h2⟩ | ⟨h1, h2, h3⟩
    all_goals
      go_wp2_with (first | (refine wpList_load_row rfl 24 (.tmp 4) rfl w.heap.size rfl 24 (winCells x) (0, 0) _ HK.out.k0 Try.underlying24 rfl (HI x).out ?_) | (go_at_call 13; refine (HRMAY.out _).mono ?_; rintro e w7 ⟨rfl, rfl⟩) | (with_reducible (show wpList _ _ _ (⟨some 52, _, _, _, _, _⟩ :: _) _ _); refine wpList_load_row_g rfl 24 (.tmp 9) rfl w1.heap.size rfl 24 (winCells winZero) (0, 0) _ HK7.out.k1 Try.underlying24 rfl (HI winZero).out ?_) | (with_reducible (show wpList _ _ _ (⟨some 57, _, _, _, _, _⟩ :: _) _ _); refine wpList_load_row_g rfl 24 (.tmp 11) rfl w3.heap.size rfl 24 (winCells winZero) (0, 0) _ HK7.out.k2 Try.underlying24 rfl (HI winZero).out ?_) | (go_at_call 7; refine (known29_any _).mono ?_; rintro e w8 ⟨rfl, hb8⟩; have HB8 := Lib.hid hb8; clear hb8))
      go_ret
      exact ⟨rfl, HB7.out.trans (HB8.out.mono HB7.out.size)⟩
end Go.Proofs.Ytcjlkggdcnochaa
