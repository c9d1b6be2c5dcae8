/- The walk of the law SizeAlone. Conditions: none. -/
import Derived.Test.YtcjlkggdcnochaaSizeI
import Derived.Test.YtcjlkggdcnochaaSizeJ
namespace Go.Proofs.Ytcjlkggdcnochaa
open Go.RowKit

/-- two blocks that are kept -/
structure Keep2 (b0 b1 : Nat) (o0 o1 : Obj) (W : World) : Prop where
  k0 : W.heap[b0]? = some o0
  k1 : W.heap[b1]? = some o1
theorem Keep2.below {b0 b1 : Nat} {o0 o1 : Obj} {W W' : World} (h : Keep2 b0 b1 o0 o1 W) (hb : Below W.heap.size W W') : Keep2 b0 b1 o0 o1 W' := ⟨heap_keep h.k0 hb, heap_keep h.k1 hb⟩

theorem least_at (x : Nat → Int) (l : List Int) (p q r0 r1 : Int) (hr : leastF x l p q = (r0, r1)) (W : World) (ad : Option Addr) (c : Nat) (hl : l.length ≤ 9223372036854775807) (h : RowAt W ad (intCells l)) :
    Calls Try.prog 8 #[.agg (winCells x), .slice ad l.length c, .agg #[.int .i64 p, .int .i64 q]] W fun e w' => e = .returned (.agg #[.int .i64 r0, .int .i64 r1]) ∧ Below W.heap.size W w' := by
  have := least_any x ad c l p q W hl h; rwa [hr] at this

set_option maxHeartbeats 4000000 in
set_option maxRecDepth 100000 in
theorem law_SizeAlone (x : Nat → Int) (id rows cols other : Int) (w : World) :
    Calls Try.prog 6 #[.agg (winCells x), .int .i64 id, .int .i64 rows, .int .i64 cols, .int .i64 other] w fun e w' => e = .returned (.bool true) ∧ Below w.heap.size w w' := by
  have HI : ∀ y : Nat → Int, Hid ((Try.prog.info? 24).map (·.size) = some (winCells y).size) := fun y => by rw [winCells_size]; exact winInfo
  have HL : ∀ y : Nat → Int, Hid ((Try.prog.info? 24).map (·.size) = some (winL y).length) := fun y => by rw [winL_length]; exact winInfo
  have HO : ∀ y : Nat → Int, Hid ((winCells y).all (·.oneCell') = true) := fun y => winCells_one y
  have HEQ := Lib.hid eql_pair
  have HNQ := Lib.hid neq_pair
  by_cases hok : setOk x id rows cols = true
  · have HOK := Lib.hid hok
    have hok' := hok
    simp only [setOk, Bool.and_eq_true] at hok'
    obtain ⟨hm, hmem, hr, hc⟩ := hok'
    have HM := Lib.hid hm
    have HMEM := Lib.hid hmem
    have HR := Lib.hid hr
    have HC := Lib.hid hc
    have hid1 : 1 ≤ id ∧ id ≤ 8 := by simpa [memberB] using hmem
    obtain ⟨hi1, hi8⟩ := hid1
    clear hok hm hmem hr hc
    by_cases ho : 1 ≤ other ∧ other ≤ 8
    · obtain ⟨ho1, ho8⟩ := ho
      have HMO := Lib.hid (show memberB other = true by simp [memberB, ho1, ho8])
      go_enter Try.func6, Try.ntmps6
      go_upto_region 7 with (first
        | (with_reducible (show wpList _ _ _ (⟨some 19, _, _, _, _, _⟩ :: _) _ _); refine wpList_load_row_g rfl 24 (.tmp 5) rfl w.heap.size rfl 24 (winCells x) (0, 0) _ HX1.out Try.underlying24 rfl (HI x).out ?_)
        | (go_at_call 7; refine (known29_any _).mono ?_; rintro e w1 ⟨rfl, hb1⟩; have HX1 := Lib.hid (heap_keep (heap_alloc_new w (.cells (winCells x) 24)) hb1); have HB1 := Lib.hid (((Below.refl _ _).alloc (Nat.le_refl _) (.cells (winCells x) 24)).trans (hb1.mono (by simp))); clear hb1)
        | (go_at_call 11; refine (set_good x id rows cols _ HOK.out).mono ?_; rintro e w2 ⟨rfl, hb2⟩; have HB2 := Lib.hid (HB1.out.trans (hb2.mono HB1.out.size)); clear hb2)
        | (refine wpList_store_row rfl 24 (.tmp 11) (.tmp 24) rfl w2.heap.size (winCells (winSet x id rows cols)) rfl rfl 24 _ (heap_alloc_new _ _) (HI (winSet x id rows cols)).out (winCells_size (winSet x id rows cols)).symm (HO (winSet x id rows cols)).out ?_))
      have hk : Keep2 w2.heap.size (w2.heap.size + 1) (.cells (winCells (winSet x id rows cols)) 24 (0, 0)) (.cells #[.int .i64 (imin rows 24), .int .i64 (imin cols 40)] 22 (0, 0)) (((w2.alloc (.cells (winCells winZero) 24)).setRow w2.heap.size (winCells (winSet x id rows cols))).alloc (.cells #[.int .i64 (imin rows 24), .int .i64 (imin cols 40)] 22)) := ⟨(Below.heap_alloc _ _ _ (by simp)).trans (setRow_heap _ _ _ _ _ _ (heap_alloc_new _ _)), by have h := heap_alloc_new ((w2.alloc (.cells (winCells winZero) 24)).setRow w2.heap.size (winCells (winSet x id rows cols))) (.cells #[.int .i64 (imin rows 24), .int .i64 (imin cols 40)] 22); simpa only [size_setRow, World.size_alloc] using h⟩
      have hb : Below w.heap.size w (((w2.alloc (.cells (winCells winZero) 24)).setRow w2.heap.size (winCells (winSet x id rows cols))).alloc (.cells #[.int .i64 (imin rows 24), .int .i64 (imin cols 40)] 22)) := (below_setRow (HB2.out.alloc HB2.out.size _) HB2.out.size _).alloc (by have := HB2.out.size; simp; omega) _
      have hmi : ∀ a, imin a 24 = (if 24 < a then 24 else a) := fun _ => rfl
      have hmj : ∀ a, imin a 40 = (if 40 < a then 40 else a) := fun _ => rfl
      have HL1 := Lib.hid (alone1 x id rows cols 1 1 HM.out HMEM.out HR.out HC.out)
      have HL3 := Lib.hid (alone3 x id other rows cols 0 0 HM.out HMEM.out HMO.out)
      rw [winZero_cells, hmi, hmj] at hk hb
      unfold Hid at HL1 HL3
      rw [hmi, hmj] at HL1 HL3
      clear hmi hmj
      generalize (if 24 < rows then 24 else rows) = m0 at *
      generalize (if 40 < cols then 40 else cols) = m1 at *
      generalize World.alloc (World.setRow _ w2.heap.size _) _ = w4 at *
      have HK := Lib.hid hk
      have HB := Lib.hid hb
      clear hk hb
      clear HOK HB1 HX1 HB2
      have eqm : eq2B m0 m1 m0 m1 = true := by simp [eq2B]
      refine wp_region_noPanic ?_
      refine wp_region_held_drew (S := Keep2 w2.heap.size (w2.heap.size + 1) (.cells (winCells (winSet x id rows cols)) 24 (0, 0)) (.cells #[.int .i64 m0, .int .i64 m1] 22 (0, 0))) (by kernel_rfl) ⟨HK.out.k0, HK.out.k1⟩ (fun hHeld => ?_)
      refine wpAnyH_take (i := 0) rfl (by kernel_rfl) (by kernel_rfl) (by kernel_rfl) (fun _ _ _ h => h) (yieldsIf_load_mid (by rfl) 24 (.tmp 11) rfl w2.heap.size 0 rfl (winL (winSet x id rows cols)) _ (fun _ h => rangeAt_row h.k0) Try.underlying24 rfl (HL (winSet x id rows cols)).out) hHeld ?_
      refine wpAnyH_take (i := 1) (v := .int .i64 id) rfl (by kernel_rfl) (by kernel_rfl) (by kernel_rfl) (fun _ _ _ h => h) (Or.inl ⟨by rfl, fun _ _ => rfl⟩) hHeld ?_
      refine wpAnyH_take (i := 3) (v := .agg #[.int .i64 1, .int .i64 1]) rfl (by kernel_rfl) (by kernel_rfl) (by kernel_rfl) (fun _ _ _ h => h) (Or.inl ⟨by rfl, fun w' hw' => by go_simp⟩) hHeld ?_
      refine wpAnyH_take (i := 5) rfl (by kernel_rfl) (by kernel_rfl) (by kernel_rfl) (fun _ _ _ h => h) (yieldsIf_load_mid (by rfl) 22 (.tmp 13) rfl (w2.heap.size + 1) 0 rfl [.int .i64 m0, .int .i64 m1] _ (fun _ h => rangeAt_row h.k1) Try.underlying22 rfl pairInfo) hHeld ?_
      simp only [Act.put]
      refine wpAnyH_ready (rs := [2]) (by kernel_rfl) (by simp) (AllReadyH.cons rfl (fun K hK => ?_) AllReadyH.nil)
      rw [if_pos (by rfl)]
      go_simp
      refine hK.out _ _ (Keep2.below hHeld ((Below.refl _ _).alloc (Nat.le_refl _) _)) (fun hHeld => ?_)
      clear hK K
      refine wpAnyH_ready (rs := [4]) (by kernel_rfl) (by simp) (AllReadyH.cons rfl (fun K hK => ?_) AllReadyH.nil)
      rw [if_pos (by rfl)]
      go_simp
      refine (least_at (winSet x id rows cols) [id] 1 1 _ _ HL1 _ _ _ (by simp) (by exact rowAt_at w4.drew (intCells [id]) _ _ rfl)).mono ?_
      rintro e w5 ⟨rfl, hb5⟩
      have hb5b := HB.out.drew.trans (((Below.refl _ _).alloc (Nat.le_refl _) _).trans (hb5.mono (by simp)) |>.mono HB.out.size)
      refine hK.out _ _ (Keep2.below hHeld hb5) (fun hHeld => ?_)
      clear hK K
      have hnq := HNQ.out
      refine wpAnyH_ready (rs := [6]) (by kernel_rfl) (by simp) (AllReadyH.cons rfl (fun K hK => ?_) AllReadyH.nil)
      rw [if_pos (by rfl)]
      go_simp
      refine hK.out _ _ hHeld (fun hHeld => ?_)
      clear hK K hnq
      refine wpAnyH_done (by kernel_rfl) ?_ _
      refine NoPanic.normal ?_
      clear HK HB
      have HK := Lib.hid hHeld
      have HB := Lib.hid hb5b
      clear hHeld hb5b hb5
      have hcl : clearOk (winSet x id rows cols) other = true := by simp only [clearOk, HMO.out, Bool.and_true]; exact may_set x id rows cols HM.out HMEM.out (.inl ⟨HR.out, HC.out⟩)
      have HCL := Lib.hid hcl
      clear hcl
      go_upto_region 12 with (first
        | (with_reducible (show wpList _ _ _ (⟨some 49, _, _, _, _, _⟩ :: _) _ _); refine wpList_load_row_g rfl 24 (.tmp 11) rfl w2.heap.size rfl 24 (winCells (winSet x id rows cols)) (0, 0) _ HK.out.k0 Try.underlying24 rfl (HI (winSet x id rows cols)).out ?_)
        | (go_at_call 12; refine (clear_good (winSet x id rows cols) other _ HCL.out).mono ?_; rintro e w6 ⟨rfl, hb6⟩; have HK6 := Lib.hid (HK.out.below hb6); have HB6 := Lib.hid (HB.out.trans (hb6.mono HB.out.size)); clear hb6)
        | (refine wpList_store_row rfl 24 (.tmp 14) (.tmp 52) rfl w6.heap.size (winCells (winSet (winSet x id rows cols) other 0 0)) rfl rfl 24 _ (heap_alloc_new _ _) (HI (winSet (winSet x id rows cols) other 0 0)).out (winCells_size (winSet (winSet x id rows cols) other 0 0)).symm (HO (winSet (winSet x id rows cols) other 0 0)).out ?_))
      have h14 : ((w6.alloc (.cells #[.int .i64 0, .int .i64 0, .int .i64 0, .int .i64 0, .int .i64 0, .int .i64 0, .int .i64 0, .int .i64 0, .int .i64 0, .int .i64 0, .int .i64 0, .int .i64 0, .int .i64 0, .int .i64 0, .int .i64 0, .int .i64 0, .int .i64 0, .int .i64 0] 24)).setRow w6.heap.size (winCells (winSet (winSet x id rows cols) other 0 0))).heap[w6.heap.size]? = some (.cells (winCells (winSet (winSet x id rows cols) other 0 0)) 24 (0, 0)) := setRow_heap _ _ _ _ _ _ (heap_alloc_new _ _)
      have hlt6 := (Array.getElem?_eq_some_iff.1 HK6.out.k1).1
      have h13 : ((w6.alloc (.cells #[.int .i64 0, .int .i64 0, .int .i64 0, .int .i64 0, .int .i64 0, .int .i64 0, .int .i64 0, .int .i64 0, .int .i64 0, .int .i64 0, .int .i64 0, .int .i64 0, .int .i64 0, .int .i64 0, .int .i64 0, .int .i64 0, .int .i64 0, .int .i64 0] 24)).setRow w6.heap.size (winCells (winSet (winSet x id rows cols) other 0 0))).heap[w2.heap.size + 1]? = some (.cells #[.int .i64 m0, .int .i64 m1] 22 (0, 0)) := (setRow_other _ _ _ _ (by omega)).trans ((Below.heap_alloc _ _ _ hlt6).trans HK6.out.k1)
      have hb7 : Below w.heap.size w ((w6.alloc (.cells #[.int .i64 0, .int .i64 0, .int .i64 0, .int .i64 0, .int .i64 0, .int .i64 0, .int .i64 0, .int .i64 0, .int .i64 0, .int .i64 0, .int .i64 0, .int .i64 0, .int .i64 0, .int .i64 0, .int .i64 0, .int .i64 0, .int .i64 0, .int .i64 0] 24)).setRow w6.heap.size (winCells (winSet (winSet x id rows cols) other 0 0))) := below_setRow (HB6.out.alloc HB6.out.size _) HB6.out.size _
      generalize World.setRow (World.alloc w6 _) w6.heap.size _ = w7 at *
      have HK7 := Lib.hid (Keep2.mk h14 h13)
      have HB7 := Lib.hid hb7
      clear h14 h13 hb7 hlt6 HK HB HK6 HB6 HCL
      have hnq := HNQ.out
      have heq := HEQ.out
      by_cases he : other = id
      · subst he
        have e79 : eq2B 7 9 7 9 = true := by decide
        go_wp2_with (first
          | (with_reducible (show wpList _ _ _ (⟨some 59, _, _, _, _, _⟩ :: _) _ _); refine wpList_load_row_g rfl 24 (.tmp 14) rfl w6.heap.size rfl 24 (winCells (winSet (winSet x other rows cols) other 0 0)) (0, 0) _ HK7.out.k0 Try.underlying24 rfl (HI (winSet (winSet x other rows cols) other 0 0)).out ?_)
          | (go_at_call 8; refine (least_at _ [other] 7 9 _ _ (alone2 _ _ _ _) _ _ _ (by simp) (by exact rowAt_at w7 (intCells [other]) _ _ rfl)).mono ?_; rintro e w8 ⟨rfl, hb8⟩; have HB8 := Lib.hid hb8; clear hb8))
        go_ret
        exact ⟨rfl, HB7.out.trans (((Below.refl _ _).alloc (Nat.le_refl _) _).trans (HB8.out.mono (by simp)) |>.mono HB7.out.size)⟩
      · have HNE := Lib.hid he
        have e34 : eq2B 3 4 3 4 = true := by decide
        have hne2 : ((other : Int) == id) = false := by simpa using he
        clear he
        go_upto_region 14 with (fail)
        refine wp_region_noPanic ?_
        refine wp_region_held_drew (S := Keep2 w6.heap.size (w2.heap.size + 1) (.cells (winCells (winSet (winSet x id rows cols) other 0 0)) 24 (0, 0)) (.cells #[.int .i64 m0, .int .i64 m1] 22 (0, 0))) (by kernel_rfl) ⟨HK7.out.k0, HK7.out.k1⟩ (fun hHeld => ?_)
        refine wpAnyH_take (i := 0) rfl (by kernel_rfl) (by kernel_rfl) (by kernel_rfl) (fun _ _ _ h => h) (yieldsIf_load_mid (by rfl) 24 (.tmp 14) rfl w6.heap.size 0 rfl (winL (winSet (winSet x id rows cols) other 0 0)) _ (fun _ h => rangeAt_row h.k0) Try.underlying24 rfl (HL (winSet (winSet x id rows cols) other 0 0)).out) hHeld ?_
        refine wpAnyH_take (i := 1) (v := .int .i64 other) rfl (by kernel_rfl) (by kernel_rfl) (by kernel_rfl) (fun _ _ _ h => h) (Or.inl ⟨by rfl, fun _ _ => rfl⟩) hHeld ?_
        refine wpAnyH_take (i := 2) (v := .int .i64 id) rfl (by kernel_rfl) (by kernel_rfl) (by kernel_rfl) (fun _ _ _ h => h) (Or.inl ⟨by rfl, fun _ _ => rfl⟩) hHeld ?_
        refine wpAnyH_take (i := 3) (v := .int .i64 other) rfl (by kernel_rfl) (by kernel_rfl) (by kernel_rfl) (fun _ _ _ h => h) (Or.inl ⟨by rfl, fun _ _ => rfl⟩) hHeld ?_
        refine wpAnyH_take (i := 5) (v := .agg #[.int .i64 0, .int .i64 0]) rfl (by kernel_rfl) (by kernel_rfl) (by kernel_rfl) (fun _ _ _ h => h) (Or.inl ⟨by rfl, fun w' hw' => by go_simp⟩) hHeld ?_
        refine wpAnyH_take (i := 7) rfl (by kernel_rfl) (by kernel_rfl) (by kernel_rfl) (fun _ _ _ h => h) (yieldsIf_load_mid (by rfl) 22 (.tmp 13) rfl (w2.heap.size + 1) 0 rfl [.int .i64 m0, .int .i64 m1] _ (fun _ h => rangeAt_row h.k1) Try.underlying22 rfl pairInfo) hHeld ?_
        simp only [Act.put]
        refine wpAnyH_ready (rs := [4]) (by kernel_rfl) (by simp) (AllReadyH.cons rfl (fun K hK => ?_) AllReadyH.nil)
        rw [if_pos (by rfl)]
        go_simp
        refine hK.out _ _ (Keep2.below hHeld ((Below.refl _ _).alloc (Nat.le_refl _) _)) (fun hHeld => ?_)
        clear hK K
        refine wpAnyH_ready (rs := [6]) (by kernel_rfl) (by simp) (AllReadyH.cons rfl (fun K hK => ?_) AllReadyH.nil)
        rw [if_pos (by rfl)]
        go_simp
        refine (least_at (winSet (winSet x id rows cols) other 0 0) [other, id, other] 0 0 _ _ (HL3 HNE.out HR.out HC.out) _ _ _ (by simp) (by exact rowAt_at w7.drew (intCells [other, id, other]) _ _ rfl)).mono ?_
        rintro e w8 ⟨rfl, hb8⟩
        have hb8b := HB7.out.drew.trans (((Below.refl _ _).alloc (Nat.le_refl _) _).trans (hb8.mono (by simp)) |>.mono HB7.out.size)
        refine hK.out _ _ (Keep2.below hHeld hb8) (fun hHeld => ?_)
        clear hK K
        refine wpAnyH_ready (rs := [8]) (by kernel_rfl) (by simp) (AllReadyH.cons rfl (fun K hK => ?_) AllReadyH.nil)
        rw [if_pos (by rfl)]
        go_simp
        refine hK.out _ _ hHeld (fun hHeld => ?_)
        clear hK K
        refine wpAnyH_take (i := 9) (v := .bool true) rfl (by kernel_rfl) (by kernel_rfl) (by kernel_rfl) (fun _ _ _ h => h) (Or.inl ⟨by rfl, fun _ _ => rfl⟩) hHeld ?_
        refine wpAnyH_take (i := 10) rfl (by kernel_rfl) (by kernel_rfl) (by kernel_rfl) (fun _ _ _ h => h) (yieldsIf_load_mid (by rfl) 24 (.tmp 14) rfl w6.heap.size 0 rfl (winL (winSet (winSet x id rows cols) other 0 0)) _ (fun _ h => rangeAt_row h.k0) Try.underlying24 rfl (HL (winSet (winSet x id rows cols) other 0 0)).out) hHeld ?_
        refine wpAnyH_take (i := 11) (v := .int .i64 other) rfl (by kernel_rfl) (by kernel_rfl) (by kernel_rfl) (fun _ _ _ h => h) (Or.inl ⟨by rfl, fun _ _ => rfl⟩) hHeld ?_
        refine wpAnyH_take (i := 13) (v := .agg #[.int .i64 3, .int .i64 4]) rfl (by kernel_rfl) (by kernel_rfl) (by kernel_rfl) (fun _ _ _ h => h) (Or.inl ⟨by rfl, fun w' hw' => by go_simp⟩) hHeld ?_
        refine wpAnyH_take (i := 15) (v := .agg #[.int .i64 3, .int .i64 4]) rfl (by kernel_rfl) (by kernel_rfl) (by kernel_rfl) (fun _ _ _ h => h) (Or.inl ⟨by rfl, fun w' hw' => by go_simp⟩) hHeld ?_
        simp only [Act.put]
        refine wpAnyH_ready (rs := [12]) (by kernel_rfl) (by simp) (AllReadyH.cons rfl (fun K hK => ?_) AllReadyH.nil)
        rw [if_pos (by rfl)]
        go_simp
        refine hK.out _ _ (Keep2.below hHeld ((Below.refl _ _).alloc (Nat.le_refl _) _)) (fun hHeld => ?_)
        clear hK K
        refine wpAnyH_ready (rs := [14]) (by kernel_rfl) (by simp) (AllReadyH.cons rfl (fun K hK => ?_) AllReadyH.nil)
        rw [if_pos (by rfl)]
        go_simp
        refine (least_at (winSet (winSet x id rows cols) other 0 0) [other] 3 4 _ _ (alone2 _ _ _ _) _ _ _ (by simp) (by exact rowAt_at w8 (intCells [other]) _ _ rfl)).mono ?_
        rintro e w9 ⟨rfl, hb9⟩
        have hb9b := hb8b.trans (((Below.refl _ _).alloc (Nat.le_refl _) _).trans (hb9.mono (by simp)) |>.mono hb8b.size)
        refine hK.out _ _ (Keep2.below hHeld hb9) (fun hHeld => ?_)
        clear hK K
        refine wpAnyH_ready (rs := [16]) (by kernel_rfl) (by simp) (AllReadyH.cons rfl (fun K hK => ?_) AllReadyH.nil)
        rw [if_pos (by rfl)]
        go_simp
        refine hK.out _ _ hHeld (fun hHeld => ?_)
        clear hK K
        refine wpAnyH_ready (rs := [17]) (by kernel_rfl) (by simp) (AllReadyH.cons rfl (fun K hK => ?_) AllReadyH.nil)
        rw [if_pos (by rfl)]
        go_simp
        refine hK.out _ _ hHeld (fun hHeld => ?_)
        clear hK K
        refine wpAnyH_ready (rs := [18]) (by kernel_rfl) (by simp) (AllReadyH.cons rfl (fun K hK => ?_) AllReadyH.nil)
        rw [if_pos (by rfl)]
        go_simp
        refine hK.out _ _ hHeld (fun hHeld => ?_)
        clear hK K
        refine wpAnyH_done (by kernel_rfl) ?_ _
        refine NoPanic.normal ?_
        go_wp2_with fail
        go_ret
        exact ⟨rfl, hb9b⟩
    · have hcase : other < 1 ∨ (1 ≤ other ∧ 8 < other) := by omega
      clear ho
      rcases hcase with s1 | ⟨s1, s2⟩
      all_goals
        go_enter Try.func6, Try.ntmps6
        go_wp2_with (first
          | (with_reducible (show wpList _ _ _ (⟨some 19, _, _, _, _, _⟩ :: _) _ _); refine wpList_load_row_g rfl 24 (.tmp 5) rfl w.heap.size rfl 24 (winCells x) (0, 0) _ HX1.out Try.underlying24 rfl (HI x).out ?_)
          | (go_at_call 7; refine (known29_any _).mono ?_; rintro e w1 ⟨rfl, hb1⟩; have HX1 := Lib.hid (heap_keep (heap_alloc_new w (.cells (winCells x) 24)) hb1); have HB1 := Lib.hid (((Below.refl _ _).alloc (Nat.le_refl _) (.cells (winCells x) 24)).trans (hb1.mono (by simp))); clear hb1)
          | (go_at_call 11; refine (set_good x id rows cols _ HOK.out).mono ?_; rintro e w2 ⟨rfl, hb2⟩; have HB2 := Lib.hid (HB1.out.trans (hb2.mono HB1.out.size)); clear hb2)
          | (refine wpList_store_row rfl 24 (.tmp 11) (.tmp 24) rfl w2.heap.size (winCells (winSet x id rows cols)) rfl rfl 24 _ (heap_alloc_new _ _) (HI (winSet x id rows cols)).out (winCells_size (winSet x id rows cols)).symm (HO (winSet x id rows cols)).out ?_))
        go_ret
        exact ⟨rfl, below_setRow (HB2.out.alloc HB2.out.size _) HB2.out.size _⟩
  · have HOK := Lib.hid (show setOk x id rows cols = false by simpa using hok)
    clear hok
    go_enter Try.func6, Try.ntmps6
    go_wp2_with (first
      | (with_reducible (show wpList _ _ _ (⟨some 19, _, _, _, _, _⟩ :: _) _ _); refine wpList_load_row_g rfl 24 (.tmp 5) rfl w.heap.size rfl 24 (winCells x) (0, 0) _ HX1.out Try.underlying24 rfl (HI x).out ?_)
      | (go_at_call 7; refine (known29_any _).mono ?_; rintro e w1 ⟨rfl, hb1⟩; have HX1 := Lib.hid (heap_keep (heap_alloc_new w (.cells (winCells x) 24)) hb1); have HB1 := Lib.hid (((Below.refl _ _).alloc (Nat.le_refl _) (.cells (winCells x) 24)).trans (hb1.mono (by simp))); clear hb1)
      | (go_at_call 11; refine (set_bad x id rows cols _ HOK.out).mono ?_; rintro e w2 ⟨rfl, hb2⟩; have HB2 := Lib.hid (HB1.out.trans (hb2.mono HB1.out.size)); clear hb2)
      | (refine wpList_store_row rfl 24 (.tmp 11) (.tmp 24) rfl w2.heap.size (winCells winZero) rfl rfl 24 _ (heap_alloc_new _ _) (HI winZero).out (winCells_size winZero).symm (HO winZero).out ?_))
    go_ret
    exact ⟨rfl, below_setRow (HB2.out.alloc HB2.out.size _) HB2.out.size _⟩
end Go.Proofs.Ytcjlkggdcnochaa
