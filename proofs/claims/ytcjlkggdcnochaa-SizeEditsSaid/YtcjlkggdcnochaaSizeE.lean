/- Walk of size.Least. Conditions: the list may be read. -/
import Derived.Test.YtcjlkggdcnochaaSizeD
namespace Go.Proofs.Ytcjlkggdcnochaa
open Go.RowKit

def imin (a b : Int) : Int := if b < a then b else a
def goodB (x : Nat → Int) (id : Int) : Bool := memberB id && !eq2B (x (id.toNat * 2)) (x (id.toNat * 2 + 1)) 0 0
structure LS where
  told : Bool
  r0 : Int
  r1 : Int
def lsStep (x : Nat → Int) (s : LS) (id : Int) : LS := if goodB x id = true then ⟨true, imin s.r0 (x (id.toNat * 2)), imin s.r1 (x (id.toNat * 2 + 1))⟩ else s
def lsTo (x : Nat → Int) (l : List Int) : Nat → LS
  | 0 => ⟨false, 24, 40⟩
  | n + 1 => lsStep x (lsTo x l n) (l.getD n 0)
theorem lsTo_succ (x : Nat → Int) (l : List Int) (n : Nat) : lsTo x l (n + 1) = lsStep x (lsTo x l n) (l.getD n 0) := rfl
def leastF (x : Nat → Int) (l : List Int) (p q : Int) : Int × Int := if mayB x = true ∧ (lsTo x l l.length).told = true then ((lsTo x l l.length).r0, (lsTo x l l.length).r1) else (p, q)

set_option maxHeartbeats 2000000 in
theorem least_any (x : Nat → Int) (ad : Option Addr) (c : Nat) (l : List Int) (p q : Int) (w : World) (hl : l.length ≤ 9223372036854775807) (hc : RowAt w ad (intCells l)) :
    Calls Try.prog 8 #[.agg (winCells x), .slice ad l.length c, .agg #[.int .i64 p, .int .i64 q]] w fun e w' => e = .returned (.agg #[.int .i64 (leastF x l p q).1, .int .i64 (leastF x l p q).2]) ∧ Below w.heap.size w w' := by
  have HG := Lib.hid (winCells_get x)
  have HC := Lib.hid hc
  clear hc
  have hiL := winInfo
  rw [← winCells_size x] at hiL
  have HI := Lib.hid hiL
  clear hiL
  have hmay := may_any x
  generalize winCells x = cs at *
  have HR := Lib.hid (show (leastF x l p q) = if mayB x = true ∧ (lsTo x l l.length).told = true then ((lsTo x l l.length).r0, (lsTo x l l.length).r1) else (p, q) from rfl)
  by_cases hm : mayB x = true
  · go_enter Try.func8, Try.ntmps8
    go_wp2_with (first
      | (refine wpList_load_row rfl 24 (.tmp 3) rfl w.heap.size rfl 24 cs (0, 0) _ ((Below.heap_alloc _ _ _ (by simp; omega)).trans (heap_alloc2_old _ _ _)) Try.underlying24 rfl HI.out ?_)
      | (go_at_call 10; refine (hmay _).mono ?_; rintro e w1 ⟨rfl, hb⟩; have HB := Lib.hid hb; clear hb))
    have hs1 : w.heap.size + 3 ≤ w1.heap.size := by have := HB.out.size; simp at this; omega
    have hbox : w1.heap[w.heap.size]? = some (.cells cs 24 (0, 0)) := (HB.out.block _ (by simp; omega)).trans ((Below.heap_alloc _ _ _ (by simp; omega)).trans (heap_alloc2_old _ _ _))
    have hres : w1.heap[w.heap.size + 1 + 1]? = some (.cells #[.int .i64 0, .int .i64 0] 22 (0, 0)) := (HB.out.block _ (by simp)).trans (heap_alloc3_new _ _ _ _)
    have hlast : w1.heap[w.heap.size + 1]? = some (.cells #[.int .i64 p, .int .i64 q] 22 (0, 0)) := (HB.out.block _ (by simp)).trans ((Below.heap_alloc _ _ _ (by simp)).trans (heap_alloc2_new _ _ _))
    have hbw : Below w.heap.size w w1 := (below_alloc3 _ _ _ _).trans (HB.out.mono (by simp; omega))
    have HC1 := Lib.hid (HC.out.below hbw)
    have HBOX := Lib.hid hbox
    have HRES := Lib.hid hres
    have HLAST := Lib.hid hlast
    have HBW := Lib.hid hbw
    clear hbox hres hlast hbw HB HC
    go_loopw [8, 19] (fun t i wr => ∃ k : Nat, k ≤ l.length ∧ i = .int .i64 k ∧ t = .bool (lsTo x l k).told ∧ wr.heap[w1.heap.size]? = some (.cells #[.int .i64 (lsTo x l k).r0, .int .i64 (lsTo x l k).r1] 22 (0, 0)) ∧ Below w1.heap.size w1 wr) (fun _ i _ => l.length - (intOf i).toNat)
    case atStart => exact ⟨0, by omega, rfl, rfl, heap_alloc_new _ _, (Below.refl _ _).alloc (Nat.le_refl _) _⟩
    case round =>
      obtain ⟨k, hk, rfl, rfl, hout, hb1⟩ := hrel
      by_cases hlt : k < l.length
      · obtain ⟨b, off, rfl, hlb, hcell⟩ := HC1.out.int hlt
        have hlc : wr.cell? ⟨b, off + k, none⟩ = some (.int .i64 (l.getD k 0)) := (hb1.cell (p := ⟨b, off + k, none⟩) hlb).trans hcell
        clear hcell
        have HLT := Lib.hid (lsTo_succ x l k)
        have HB1 := Lib.hid hb1
        have HOUT := Lib.hid hout
        clear hb1 hout
        generalize lsTo x l k = s at *
        have heq := eql_pair
        generalize l.getD k 0 = id at *
        by_cases hmem : memberB id = true
        · have hid1 : 1 ≤ id ∧ id ≤ 8 := by simpa [memberB] using hmem
          obtain ⟨hi1, hi8⟩ := hid1
          have hc0 : wr.cell? ⟨w.heap.size, id.toNat * 2, none⟩ = some (.int .i64 (x (id.toNat * 2))) := by
            rw [cell_of_row _ _ _ cs _ _ ((HB1.out.block _ (by omega)).trans HBOX.out)]; exact HG.out _ (by omega)
          have hc1 : wr.cell? ⟨w.heap.size, id.toNat * 2 + 1, none⟩ = some (.int .i64 (x (id.toNat * 2 + 1))) := by
            rw [cell_of_row _ _ _ cs _ _ ((HB1.out.block _ (by omega)).trans HBOX.out)]; exact HG.out _ (by omega)
          have H10 := Lib.hid (show w1.cell? ⟨w.heap.size, id.toNat * 2, none⟩ = some (.int .i64 (x (id.toNat * 2))) by rw [cell_of_row _ _ _ cs _ _ HBOX.out]; exact HG.out _ (by omega))
          have H11 := Lib.hid (show w1.cell? ⟨w.heap.size, id.toNat * 2 + 1, none⟩ = some (.int .i64 (x (id.toNat * 2 + 1))) by rw [cell_of_row _ _ _ cs _ _ HBOX.out]; exact HG.out _ (by omega))
          by_cases hz : eq2B (x (id.toNat * 2)) (x (id.toNat * 2 + 1)) 0 0 = true
          · go_wp2_with (go_at_call 14; refine (member_any _ _).mono ?_; rintro e w' ⟨rfl, rfl⟩)
            go_roundw
            case rel => exact ⟨k + 1, by omega, by go_num, by rw [HLT.out, lsStep, if_neg (by simp [goodB, hz])], by rw [HLT.out, lsStep, if_neg (by simp [goodB, hz])]; exact HOUT.out, HB1.out⟩
            case measure => simp [intOf]; omega
          · have hz : eq2B (x (id.toNat * 2)) (x (id.toNat * 2 + 1)) 0 0 = false := by simpa using hz
            have HGD := Lib.hid (show goodB x id = true by simp [goodB, hz, hmem])
            go_wp2_with (go_at_call 14; refine (member_any _ _).mono ?_; rintro e w' ⟨rfl, rfl⟩)
            generalize hxa : x (id.toNat * 2) = xa at *
            generalize hxb : x (id.toNat * 2 + 1) = xb at *
            have HXA := Lib.hid hxa
            have HXB := Lib.hid hxb
            clear hxa hxb
            obtain ⟨wo, rfl⟩ : ∃ wo : World, wo = wr := ⟨_, rfl⟩
            go_loopw [33] (fun j wq => ∃ m : Nat, m ≤ 2 ∧ j = .int .i64 m ∧ wq.heap[w1.heap.size]? = some (.cells #[.int .i64 (if 1 ≤ m then imin s.r0 xa else s.r0), .int .i64 (if 2 ≤ m then imin s.r1 xb else s.r1)] 22 (0, 0)) ∧ Below w1.heap.size w1 wq) (fun j _ => 2 - (intOf j).toNat)
            case atStart => exact ⟨0, by omega, rfl, HOUT.out, HB1.out⟩
            case round =>
              obtain ⟨m, hm2, rfl, ho, hbq⟩ := hrel
              have HO := Lib.hid ho
              have HBQ := Lib.hid hbq
              clear ho hbq hc0 hc1
              by_cases hm0 : m = 0
              · subst hm0
                have ho' : wr.heap[w1.heap.size]? = some (.cells #[.int .i64 s.r0, .int .i64 s.r1] 22 (0, 0)) := HO.out
                have c0 : wr.cell? ⟨w1.heap.size, 0, none⟩ = some (.int .i64 s.r0) := by rw [cell_of_row _ _ _ _ _ _ ho']; rfl
                have f0 := frozen_row wr _ 0 _ _ ho'
                have x0 : wr.cell? ⟨w.heap.size, id.toNat * 2, none⟩ = some (.int .i64 xa) := (HBQ.out.cell (by simp; omega)).trans H10.out
                have HO' := Lib.hid ho'
                clear ho'
                go_wp2_with fail
                go_region
                go_wp2_with fail
                go_roundw
                case rel => exact ⟨1, by omega, rfl, (heap_setCell_same wr _ 0 _ _ (.int .i64 (imin s.r0 xa)) HO'.out).trans rfl, (HBQ.out.setCell (Nat.le_refl _) _).drew⟩
                case measure => simp [intOf]
              · by_cases hm1 : m = 1
                · subst hm1
                  have ho' : wr.heap[w1.heap.size]? = some (.cells #[.int .i64 (imin s.r0 xa), .int .i64 s.r1] 22 (0, 0)) := HO.out
                  have c0 : wr.cell? ⟨w1.heap.size, 1, none⟩ = some (.int .i64 s.r1) := by rw [cell_of_row _ _ _ _ _ _ ho']; rfl
                  have f0 := frozen_row wr _ 1 _ _ ho'
                  have x0 : wr.cell? ⟨w.heap.size, id.toNat * 2 + 1, none⟩ = some (.int .i64 xb) := (HBQ.out.cell (by simp; omega)).trans H11.out
                  have HO' := Lib.hid ho'
                  clear ho'
                  go_wp2_with fail
                  go_region
                  go_wp2_with fail
                  go_roundw
                  case rel => exact ⟨2, by omega, rfl, (heap_setCell_same wr _ 1 _ _ (.int .i64 (imin s.r1 xb)) HO'.out).trans rfl, (HBQ.out.setCell (Nat.le_refl _) _).drew⟩
                  case measure => simp [intOf]
                · obtain rfl : m = 2 := by omega
                  go_wp2_with fail
                  go_roundw
                  case rel => exact ⟨k + 1, by omega, by go_num, by rw [HLT.out, lsStep, if_pos HGD.out], by rw [HLT.out, lsStep, if_pos HGD.out, HXA.out, HXB.out]; exact HO.out, HBQ.out⟩
                  case measure => simp [intOf]; omega
        · have hmem : memberB id = false := by simpa using hmem
          go_wp2_with (go_at_call 14; refine (member_any _ _).mono ?_; rintro e w' ⟨rfl, rfl⟩)
          go_roundw
          case rel => exact ⟨k + 1, by omega, by go_num, by rw [HLT.out, lsStep, if_neg (by simp [goodB, hmem])], by rw [HLT.out, lsStep, if_neg (by simp [goodB, hmem])]; exact HOUT.out, HB1.out⟩
          case measure => simp [intOf]; omega
      · obtain rfl : k = l.length := by omega
        have HOUT := Lib.hid hout
        have HB1 := Lib.hid hb1
        clear hout hb1
        generalize hs : lsTo x l l.length = s at *
        have HSS := Lib.hid hs
        clear hs
        have hl0 : wr.cell? ⟨w.heap.size + 1, 0, none⟩ = some (.int .i64 p) := by rw [cell_of_row _ _ _ _ _ _ ((HB1.out.block _ (by omega)).trans HLAST.out)]; rfl
        have hl1 : wr.cell? ⟨w.heap.size + 1, 1, none⟩ = some (.int .i64 q) := by rw [cell_of_row _ _ _ _ _ _ ((HB1.out.block _ (by omega)).trans HLAST.out)]; rfl
        have ho0 : wr.cell? ⟨w1.heap.size, 0, none⟩ = some (.int .i64 s.r0) := by rw [cell_of_row _ _ _ _ _ _ HOUT.out]; rfl
        have ho1 : wr.cell? ⟨w1.heap.size, 1, none⟩ = some (.int .i64 s.r1) := by rw [cell_of_row _ _ _ _ _ _ HOUT.out]; rfl
        have hres := (HB1.out.block (w.heap.size + 1 + 1) (by omega)).trans HRES.out
        have hr0 : wr.cell? ⟨w.heap.size + 1 + 1, 0, none⟩ = some (.int .i64 0) := by rw [cell_of_row _ _ _ _ _ _ hres]; rfl
        have hr1 : wr.cell? ⟨w.heap.size + 1 + 1, 1, none⟩ = some (.int .i64 0) := by rw [cell_of_row _ _ _ _ _ _ hres]; rfl
        have hf0 := frozen_row wr _ 0 _ _ hres
        have hf1 := frozen_row wr _ 1 _ _ hres
        have HRS := Lib.hid hres
        clear hres
        have HFIN := Lib.hid (show ∀ a b : Int, Below w.heap.size w ((wr.setCell ⟨w.heap.size + 1 + 1, 0, none⟩ (.int .i64 a)).setCell ⟨w.heap.size + 1 + 1, 1, none⟩ (.int .i64 b)) from fun a b => ((HBW.out.trans (HB1.out.mono (by omega))).setCell (by simp; omega) _).setCell (by simp; omega) _)
        by_cases ht : s.told = true
        · go_wp2_with fail
          refine bodyPost_ret (results_cell_row rfl _ _ (w.heap.size + 1 + 1) 22 #[.int .i64 s.r0, .int .i64 s.r1] (0, 0) _ rfl (heap_setCell_same _ _ 1 _ _ _ (heap_setCell_same _ _ 0 _ _ _ HRS.out)) Try.underlying22 rfl pairInfo) rfl ⟨by rw [HR.out, if_pos ⟨hm, ht⟩], HFIN.out _ _⟩
        · have ht : s.told = false := by simpa using ht
          go_wp2_with fail
          refine bodyPost_ret (results_cell_row rfl _ _ (w.heap.size + 1 + 1) 22 #[.int .i64 p, .int .i64 q] (0, 0) _ rfl (heap_setCell_same _ _ 1 _ _ _ (heap_setCell_same _ _ 0 _ _ _ HRS.out)) Try.underlying22 rfl pairInfo) rfl ⟨by rw [HR.out, if_neg (by simp [ht])], HFIN.out _ _⟩
  · have hm : mayB x = false := by simpa using hm
    go_enter Try.func8, Try.ntmps8
    go_wp2_with (first
      | (refine wpList_load_row rfl 24 (.tmp 3) rfl w.heap.size rfl 24 cs (0, 0) _ ((Below.heap_alloc _ _ _ (by simp; omega)).trans (heap_alloc2_old _ _ _)) Try.underlying24 rfl HI.out ?_)
      | (go_at_call 10; refine (hmay _).mono ?_; rintro e w1 ⟨rfl, hb⟩; have HB := Lib.hid hb; clear hb; have hres := (HB.out.block (w.heap.size + 1 + 1) (by simp)).trans (heap_alloc3_new _ _ _ _); have hlast := (HB.out.block (w.heap.size + 1) (by simp)).trans ((Below.heap_alloc _ _ _ (by simp)).trans (heap_alloc2_new _ _ _)); have hl0 := (cell_of_row w1 _ 0 _ _ _ hlast).trans rfl; have hl1 := (cell_of_row w1 _ 1 _ _ _ hlast).trans rfl; have hr0 := (cell_of_row w1 _ 0 _ _ _ hres).trans rfl; have hr1 := (cell_of_row w1 _ 1 _ _ _ hres).trans rfl; have hf0 := frozen_row w1 _ 0 _ _ hres; have hf1 := frozen_row w1 _ 1 _ _ hres; have HRS := Lib.hid hres; clear hres hlast))
    refine bodyPost_ret (results_cell_row rfl _ _ (w.heap.size + 1 + 1) 22 #[.int .i64 p, .int .i64 q] (0, 0) _ rfl (heap_setCell_same _ _ 1 _ _ _ (heap_setCell_same _ _ 0 _ _ _ HRS.out)) Try.underlying22 rfl pairInfo) rfl ⟨by rw [HR.out, if_neg (by simp [hm])], ?_⟩
    exact (((below_alloc3 _ _ _ _).trans (HB.out.mono (by simp; omega))).setCell (by simp; omega) _).setCell (by simp; omega) _
end Go.Proofs.Ytcjlkggdcnochaa
