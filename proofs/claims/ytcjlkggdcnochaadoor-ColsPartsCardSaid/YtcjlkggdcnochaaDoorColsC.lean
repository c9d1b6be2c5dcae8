/- Walks of cols.Span, the reference's Span and Same. Conditions: the table lies as laid; lists of at most a million. -/
import Derived.Test.YtcjlkggdcnochaaDoorColsB
namespace Go.Proofs.YtcjlkggdcnochaaDoor
open Go.RowKit

def runeCells (l : List Int) : List Value := l.map (Value.int .i32)
theorem runeCells_length (l : List Int) : (runeCells l).length = l.length := by simp [runeCells]
theorem runeCells_get (l : List Int) (j : Nat) (h : j < l.length) : (runeCells l)[j]? = some (.int .i32 (l.getD j 0)) := by simp [runeCells, h]
theorem RowAt.rune {w : World} {a : Option Addr} {l : List Int} (h : RowAt w a (runeCells l)) {j : Nat} (hj : j < l.length) : ∃ b off, a = some ⟨b, off, none⟩ ∧ b < w.heap.size ∧ w.cell? ⟨b, off + j, none⟩ = some (.int .i32 (l.getD j 0)) := h.cell (runeCells_get l j hj)

theorem ofR_bd (c : Int) : -1 ≤ ofR c ∧ ofR c ≤ 2 := by
  unfold ofR
  split
  · omega
  split
  · omega
  split
  · omega
  split
  · omega
  split
  · omega
  omega
/-- the columns that count -/
def mxR (c : Int) : Int := if 0 < ofR c then ofR c else 0
theorem mxR_bd (c : Int) : 0 ≤ mxR c ∧ mxR c ≤ 2 := by have := ofR_bd c; unfold mxR; split <;> omega
def spanTo (l : List Int) : Nat → Int
  | 0 => 0
  | n + 1 => spanTo l n + mxR (l.getD n 0)
theorem spanTo_succ (l : List Int) (n : Nat) : spanTo l (n + 1) = spanTo l n + mxR (l.getD n 0) := rfl
theorem spanTo_bd (l : List Int) (n : Nat) : 0 ≤ spanTo l n ∧ spanTo l n ≤ 2 * n := by
  induction n with
  | zero => simp [spanTo]
  | succ n ih => have := mxR_bd (l.getD n 0); rw [spanTo_succ]; omega

set_option maxHeartbeats 1000000 in
theorem span_any (ad : Option Addr) (cp : Nat) (l : List Int) (w : World) (ht : Tab w) (hl : l.length ≤ 1000000) (hc : RowAt w ad (runeCells l)) :
    Calls Tryd.prog 13 #[.slice ad l.length cp] w fun e w' => e = .returned (.int .i64 (spanTo l l.length)) ∧ Below w.heap.size w w' := by
  have HT := Lib.hid ht
  have HC := Lib.hid hc
  clear ht hc
  go_enter Tryd.func13, Tryd.ntmps13
  go_wp2_with fail
  go_loopw [3, 8] (fun t i wr => ∃ k : Nat, k ≤ l.length ∧ i = .int .i64 k ∧ t = .int .i64 (spanTo l k) ∧ Below w.heap.size w wr) (fun _ i _ => l.length - (intOf i).toNat)
  case atStart => exact ⟨0, by omega, rfl, rfl, Below.refl _ _⟩
  case round =>
    obtain ⟨k, hk, rfl, rfl, hb⟩ := hrel
    have HB := Lib.hid hb
    have hsp := spanTo_bd l k
    obtain ⟨hsp1, hsp2⟩ := hsp
    by_cases hlt : k < l.length
    · obtain ⟨b, off, rfl, hlb, hcell⟩ := HC.out.rune hlt
      have hlc : wr.cell? ⟨b, off + k, none⟩ = some (.int .i32 (l.getD k 0)) := (hb.cell (p := ⟨b, off + k, none⟩) hlb).trans hcell
      clear hcell hb
      have HS := Lib.hid (spanTo_succ l k)
      have hm := mxR_bd (l.getD k 0)
      have hmm : mxR (l.getD k 0) = if 0 < ofR (l.getD k 0) then ofR (l.getD k 0) else 0 := rfl
      have HM := Lib.hid hmm
      clear hmm
      generalize spanTo l k = s at *
      generalize l.getD k 0 = c at *
      go_wp2_with (go_at_call 9; refine (of_any _ _ (HT.out.below HB.out)).mono ?_; rintro e w1 ⟨rfl, hb1⟩; have HB1 := Lib.hid (HB.out.trans (hb1.mono HB.out.size)); clear hb1; have hbd := ofR_bd c; generalize ofR c = v at *)
      go_roundw
      case rel => exact ⟨k + 1, by omega, by go_num, by rw [HS.out, HM.out], HB1.out⟩
      case measure => simp [intOf]; omega
    · obtain rfl : k = l.length := by omega
      go_wp2_with fail
      go_ret
      exact ⟨rfl, HB.out⟩

set_option maxHeartbeats 1000000 in
theorem refSpan_any (ad : Option Addr) (cp : Nat) (l : List Int) (w : World) (hl : l.length ≤ 1000000) (hc : RowAt w ad (runeCells l)) :
    Calls Tryd.prog 14 #[.slice ad l.length cp] w fun e w' => e = .returned (.int .i64 (spanTo l l.length)) ∧ w = w' := by
  have HC := Lib.hid hc
  clear hc
  go_enter Tryd.func14, Tryd.ntmps14
  go_wp2_with fail
  go_loop [3, 4] (fun t i => ∃ k : Nat, k ≤ l.length ∧ i = .int .i64 k ∧ t = .int .i64 (spanTo l k)) (fun _ i => l.length - (intOf i).toNat)
  case atStart => exact ⟨0, by omega, rfl, rfl⟩
  case round =>
    obtain ⟨k, hk, rfl, rfl⟩ := hrel
    obtain ⟨hsp1, hsp2⟩ := spanTo_bd l k
    by_cases hlt : k < l.length
    · obtain ⟨b, off, rfl, hlb, hlc⟩ := HC.out.rune hlt
      have HS := Lib.hid (spanTo_succ l k)
      have hm := mxR_bd (l.getD k 0)
      have HM := Lib.hid (show mxR (l.getD k 0) = if 0 < ofR (l.getD k 0) then ofR (l.getD k 0) else 0 from rfl)
      have hbd := ofR_bd (l.getD k 0)
      generalize spanTo l k = s at *
      generalize l.getD k 0 = c at *
      have hcon := refOf_any c
      generalize ofR c = v at *
      by_cases hv : 0 < v
      · go_wp2_with (go_at_call 10; refine (hcon _).mono ?_; rintro e w1 ⟨rfl, rfl⟩)
        go_round
        case rel => exact ⟨k + 1, by omega, by go_num, by rw [HS.out, HM.out, if_pos hv]⟩
        case measure => simp [intOf]; omega
      · go_wp2_with (go_at_call 10; refine (hcon _).mono ?_; rintro e w1 ⟨rfl, rfl⟩)
        go_round
        case rel => exact ⟨k + 1, by omega, by go_num, by rw [HS.out, HM.out, if_neg (by omega), Int.add_zero]⟩
        case measure => simp [intOf]; omega
    · obtain rfl : k = l.length := by omega
      go_wp2_with fail
      go_ret
      exact ⟨rfl, rfl⟩

def sameB (l m : List Int) : Bool := decide (l = m)
theorem same_of_getD {l m : List Int} (hl : l.length = m.length) (h : ∀ j, j < l.length → l.getD j 0 = m.getD j 0) : l = m := by
  apply List.ext_getElem hl
  intro j h1 h2
  have := h j h1
  simpa [h1, h2] using this

set_option maxHeartbeats 1000000 in
theorem refSame_any (ad bd : Option Addr) (cp cq : Nat) (l m : List Int) (w : World) (hl : l.length ≤ 1000000) (hm : m.length ≤ 1000000) (hc : RowAt w ad (runeCells l)) (hd : RowAt w bd (runeCells m)) :
    Calls Tryd.prog 15 #[.slice ad l.length cp, .slice bd m.length cq] w fun e w' => e = .returned (.bool (sameB l m)) ∧ ∃ n, w' = w.drewN n := by
  have HC := Lib.hid hc
  have HD := Lib.hid hd
  clear hc hd
  by_cases hne : l.length = m.length
  · have HNE := Lib.hid hne
    have hq : ((l.length : Int) != (m.length : Int)) = false := by simp; omega
    clear hne
    go_enter Tryd.func15, Tryd.ntmps15
    go_wp2_with fail
    go_loopw [5] (fun i wr => ∃ k : Nat, k ≤ l.length ∧ i = .int .i64 k ∧ (∀ j, j < k → l.getD j 0 = m.getD j 0) ∧ ∃ n, wr = w.drewN n) (fun i _ => l.length - (intOf i).toNat)
    case atStart => exact ⟨0, by omega, rfl, fun j hj => by omega, 0, rfl⟩
    case round =>
      obtain ⟨k, hk, rfl, hall, n, rfl⟩ := hrel
      have HALL := Lib.hid hall
      clear hall
      by_cases hlt : k < l.length
      · obtain ⟨b, off, rfl, hlb, hlc⟩ := HC.out.rune hlt
        obtain ⟨b', off', rfl, hlb', hlc'⟩ := HD.out.rune (show k < m.length by rw [← HNE.out]; exact hlt)
        have hltm : k < m.length := by rw [← HNE.out]; exact hlt
        by_cases hx : l.getD k 0 = m.getD k 0
        · have HSTEP := Lib.hid (show ∀ j, j < k + 1 → l.getD j 0 = m.getD j 0 from fun j hj => by
            by_cases e : j = k
            · subst e; exact hx
            · exact HALL.out j (by omega))
          rw [← hx] at hlc'
          clear hx
          generalize l.getD k 0 = x at hlc hlc'
          go_wp2_with fail
          go_quiet (fail)
          go_wp2_with fail
          go_roundw
          case rel => exact ⟨k + 1, by omega, by go_num, HSTEP.out, _, rfl⟩
          case measure => simp [intOf]; omega
        · have HF := Lib.hid (show sameB l m = false from by simp only [sameB, decide_eq_false_iff_not]; intro e; subst e; exact hx rfl)
          have hx2 : (l.getD k 0 != m.getD k 0) = true := by simpa using hx
          clear hx
          generalize l.getD k 0 = x at *
          generalize m.getD k 0 = y at *
          go_wp2_with fail
          go_quiet (fail)
          go_wp2_with fail
          go_ret
          exact ⟨ret_bool HF.out.symm, n + nq, World.drewN_drewN _ _ _⟩
      · obtain rfl : k = l.length := by omega
        go_wp2_with fail
        go_ret
        exact ⟨ret_bool (by rw [sameB, decide_eq_true (same_of_getD HNE.out HALL.out)]), n, rfl⟩
  · have hq : ((l.length : Int) != (m.length : Int)) = true := by simp; omega
    have HF := Lib.hid (show sameB l m = false from by simp only [sameB, decide_eq_false_iff_not]; intro e; subst e; exact hne rfl)
    clear hne
    go_enter Tryd.func15, Tryd.ntmps15
    go_wp2_with fail
    go_ret
    exact ⟨ret_bool HF.out.symm, 0, rfl⟩
end Go.Proofs.YtcjlkggdcnochaaDoor
