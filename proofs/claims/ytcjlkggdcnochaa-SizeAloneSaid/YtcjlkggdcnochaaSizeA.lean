/- Walks of package size: side, member, window, May. Conditions: none. -/
import Derived.Test.YtcjlkggdcnochaaChecked
import Derived.WalkKit
import Derived.Test.YtcjlkggdcnochaaEq
import Derived.Test.YtcjlkggdcnochaaBase
import Derived.WalkSpells
import Derived.WalkLawsBesides
import Derived.Deep.QuietTactic
import Derived.BigQuiet
import Derived.Lib.Hide
namespace Go.Proofs.Ytcjlkggdcnochaa
open Go.RowKit

def sideB (n : Int) : Bool := decide (1 ≤ n) && decide (n ≤ 1000)
def memberB (n : Int) : Bool := decide (1 ≤ n) && decide (n ≤ 8)

set_option maxHeartbeats 400000 in
theorem side_any (n : Int) (w : World) :
    Calls Try.prog 17 #[.int .i64 n] w fun e w' => e = .returned (.bool (sideB n)) ∧ w = w' := by
  go_enter Try.func17, Try.ntmps17
  go_wp2
  all_goals (go_ret; exact ⟨ret_bool (by simp [sideB]; omega), rfl⟩)

set_option maxHeartbeats 400000 in
theorem member_any (n : Int) (w : World) :
    Calls Try.prog 14 #[.int .i64 n] w fun e w' => e = .returned (.bool (memberB n)) ∧ w = w' := by
  go_enter Try.func14, Try.ntmps14
  go_wp2
  all_goals (go_ret; exact ⟨ret_bool (by simp [memberB]; omega), rfl⟩)

def eq2B (a b c d : Int) : Bool := decide (a = c) && decide (b = d)

theorem eql_pair (a b c d : Int) (w : World) : (binOp .eql 22 (.agg #[.int .i64 a, .int .i64 b]) (.agg #[.int .i64 c, .int .i64 d])).run Try.prog w = .ok (.bool (eq2B a b c d)) w := by
  rw [run_eql_struct, run_equalIn_array w 9999 22 3 2 1 _ _ Try.underlying22 (Try.sizeOf3 w)]
  simp only [eqElems]
  simp [part, Try.isAgg3, run_equalIn_int w _ 3 .i64 .i64 _ _ Try.underlying3, Sem.run_ite, eq2B]
  by_cases h1 : a = c <;> by_cases h2 : b = d <;> simp [h1, h2]

theorem neq_pair (a b c d : Int) (w : World) : (binOp .neq 22 (.agg #[.int .i64 a, .int .i64 b]) (.agg #[.int .i64 c, .int .i64 d])).run Try.prog w = .ok (.bool (!eq2B a b c d)) w := by
  have h := eql_pair a b c d w
  rw [run_eql_struct] at h
  rw [run_neq_struct]
  generalize (Op.equalIn 10000 22 (.agg #[.int .i64 a, .int .i64 b]) (.agg #[.int .i64 c, .int .i64 d])).run Try.prog w = r at h
  cases r with
  | ok x w1 => simp at h; simp [h]
  | halt x w1 => simp [Result.andThen] at h

def windowB (a b : Int) : Bool := eq2B a b 0 0 || (sideB a && sideB b)

set_option maxHeartbeats 400000 in
theorem window_any (a b : Int) (w : World) :
    Calls Try.prog 16 #[.agg #[.int .i64 a, .int .i64 b]] w fun e w' => e = .returned (.bool (windowB a b)) ∧ w' = w.alloc (.cells #[.int .i64 a, .int .i64 b] 22) := by
  have heq := eql_pair
  by_cases h1 : eq2B a b 0 0 = true
  · have hr : windowB a b = true := by simp [windowB, h1]
    go_enter Try.func16, Try.ntmps16
    go_wp2_with fail
    go_ret
    exact ⟨ret_bool (by rw [hr]), rfl⟩
  · have h1 : eq2B a b 0 0 = false := by simpa using h1
    by_cases h2 : sideB a = true
    · have hr : windowB a b = sideB b := by simp [windowB, h1, h2]
      go_enter Try.func16, Try.ntmps16
      go_wp2_with (go_at_call 17; refine (side_any _ _).mono ?_; rintro e w' ⟨rfl, rfl⟩)
      go_ret
      exact ⟨ret_bool (by rw [hr]), rfl⟩
    · have h2 : sideB a = false := by simpa using h2
      have hr : windowB a b = false := by simp [windowB, h1, h2]
      go_enter Try.func16, Try.ntmps16
      go_wp2_with (go_at_call 17; refine (side_any _ _).mono ?_; rintro e w' ⟨rfl, rfl⟩)
      go_ret
      exact ⟨ret_bool (by rw [hr]), rfl⟩

/-- the cells of windows -/
def winL (x : Nat → Int) : List Value := (List.range 18).map fun j => Value.int .i64 (x j)
def winCells (x : Nat → Int) : Array Value := (winL x).toArray
theorem winL_length (x : Nat → Int) : (winL x).length = 18 := by simp [winL]
theorem winL_get (x : Nat → Int) (j : Nat) (h : j < 18) : (winL x)[j]? = some (.int .i64 (x j)) := by simp [winL, h]
theorem winL_one (x : Nat → Int) : ∀ v ∈ winL x, v.oneCell' = true := by intro v hv; simp [winL] at hv; obtain ⟨j, _, rfl⟩ := hv; rfl
theorem winCells_size (x : Nat → Int) : (winCells x).size = 18 := by simp [winCells, winL]
theorem winCells_get (x : Nat → Int) (j : Nat) (h : j < 18) : (winCells x)[j]? = some (.int .i64 (x j)) := by simp [winCells, winL, h]

def rowOk (x : Nat → Int) (i : Nat) : Bool := windowB (x (i * 2)) (x (i * 2 + 1)) && !(decide (i = 0) && !eq2B (x (i * 2)) (x (i * 2 + 1)) 0 0)
def mayTo (x : Nat → Int) : Nat → Bool
  | 0 => true
  | n + 1 => mayTo x n && rowOk x n
def mayB (x : Nat → Int) : Bool := mayTo x 9

theorem mayTo_false (x : Nat → Int) {i n : Nat} (h : i < n) (hr : rowOk x i = false) : mayTo x n = false := by
  induction n with
  | zero => omega
  | succ n ih =>
    by_cases e : i = n
    · subst e; simp [mayTo, hr]
    · simp [mayTo, ih (by omega)]

set_option maxHeartbeats 1000000 in
theorem may_any (x : Nat → Int) (w : World) :
    Calls Try.prog 10 #[.agg (winCells x)] w fun e w' => e = .returned (.bool (mayB x)) ∧ Below w.heap.size w w' := by
  have heq := neq_pair
  have hsz := winCells_size x
  have HG := Lib.hid (winCells_get x)
  generalize winCells x = cs at *
  go_enter Try.func10, Try.ntmps10
  go_wp2_with fail
  go_loopw [4] (fun i wr => ∃ k : Nat, k ≤ 9 ∧ i = .int .i64 k ∧ mayTo x k = true ∧ wr.heap[w.heap.size]? = some (.cells cs 24 (0, 0)) ∧ Below w.heap.size w wr) (fun i _ => 9 - (intOf i).toNat)
  case atStart => exact ⟨0, by omega, rfl, rfl, heap_alloc_new w _, (Below.refl _ _).alloc (Nat.le_refl _) _⟩
  case round =>
    obtain ⟨k, hk, rfl, hmt, hB, hb⟩ := hrel
    have HM := Lib.hid hmt
    clear hmt
    have hsz2 := hb.size
    by_cases hlt : k < 9
    · have hc0 : wr.cell? ⟨w.heap.size, k * 2, none⟩ = some (.int .i64 (x (k * 2))) := by rw [cell_of_row wr _ _ cs _ _ hB]; exact HG.out _ (by omega)
      have hc1 : wr.cell? ⟨w.heap.size, k * 2 + 1, none⟩ = some (.int .i64 (x (k * 2 + 1))) := by rw [cell_of_row wr _ _ cs _ _ hB]; exact HG.out _ (by omega)
      have hltB : w.heap.size < wr.heap.size := (Array.getElem?_eq_some_iff.1 hB).1
      have hn0 : ∀ o, (wr.alloc o).cell? ⟨w.heap.size, k * 2, none⟩ = some (.int .i64 (x (k * 2))) := fun o => by rw [World.cell?_of_block (w := wr) (Below.heap_alloc wr o _ hltB)]; exact hc0
      have hn1 : ∀ o, (wr.alloc o).cell? ⟨w.heap.size, k * 2 + 1, none⟩ = some (.int .i64 (x (k * 2 + 1))) := fun o => by rw [World.cell?_of_block (w := wr) (Below.heap_alloc wr o _ hltB)]; exact hc1
      have hnB : ∀ o, (wr.alloc o).heap[w.heap.size]? = some (.cells cs 24 (0, 0)) := fun o => by rw [Below.heap_alloc wr o _ hltB]; exact hB
      have HB := Lib.hid hnB
      clear hB hnB
      have hbelow : ∀ o, Below w.heap.size w (wr.alloc o) := fun o => hb.alloc hsz2 o
      have HL := Lib.hid hbelow
      clear hbelow
      by_cases h1 : windowB (x (k * 2)) (x (k * 2 + 1)) = true
      · by_cases h0 : k = 0
        · subst h0
          by_cases h2 : eq2B (x 0) (x 1) 0 0 = true
          · have hro : Hid (rowOk x 0 = true) := by simp [Hid, rowOk, h2]; simpa using h1
            simp only [Nat.zero_mul, Nat.zero_add] at *
            go_wp2_with (go_at_call 16; refine (window_any _ _ _).mono ?_; rintro e w' ⟨rfl, rfl⟩)
            go_roundw
            case rel => exact ⟨1, by omega, rfl, by simp [mayTo, hro.out], HB.out _, HL.out _⟩
            case measure => simp [intOf]
          · have h2 : eq2B (x 0) (x 1) 0 0 = false := by simpa using h2
            have hro : Hid (rowOk x 0 = false) := by simp [Hid, rowOk, h2]
            simp only [Nat.zero_mul, Nat.zero_add] at *
            go_wp2_with (go_at_call 16; refine (window_any _ _ _).mono ?_; rintro e w' ⟨rfl, rfl⟩)
            go_ret
            exact ⟨ret_bool (mayTo_false x (by omega) hro.out).symm, HL.out _⟩
        · have hro : Hid (rowOk x k = true) := by simp [Hid, rowOk, h1, h0]
          go_wp2_with (go_at_call 16; refine (window_any _ _ _).mono ?_; rintro e w' ⟨rfl, rfl⟩)
          go_roundw
          case rel => exact ⟨k + 1, by omega, by go_num, by simp [mayTo, hro.out, HM.out], HB.out _, HL.out _⟩
          case measure => simp [intOf]; omega
      · have h1 : windowB (x (k * 2)) (x (k * 2 + 1)) = false := by simpa using h1
        have hro : Hid (rowOk x k = false) := by simp [Hid, rowOk, h1]
        go_wp2_with (go_at_call 16; refine (window_any _ _ _).mono ?_; rintro e w' ⟨rfl, rfl⟩)
        go_ret
        exact ⟨ret_bool (mayTo_false x hlt hro.out).symm, HL.out _⟩
    · obtain rfl : k = 9 := by omega
      go_wp2_with fail
      go_ret
      exact ⟨ret_bool HM.out.symm, hb⟩
end Go.Proofs.Ytcjlkggdcnochaa
