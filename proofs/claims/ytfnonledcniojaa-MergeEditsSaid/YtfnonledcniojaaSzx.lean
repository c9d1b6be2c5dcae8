/- merge.Size, told outright: the walk of Bytes' closure. Conditions: as each statement says. -/
import Derived.Test.YtfnonledcniojaaCj
import Derived.Test.YtfnonledcniojaaSzm
import Derived.Test.YtfnonledcniojaaM3
import Derived.Test.YtfnonledcniojaaChecked
import Derived.RangeFuncNested
import Derived.RangeFuncBound
import Derived.RangeFuncCalls
import Derived.RangeFuncLeaves
import Derived.RangeFuncBox
import Derived.Shelf.Abstract
import Derived.Shelf.RegionOpen
import Derived.WalkKit
import Derived.OwnWalkIn
import Derived.TacticsInMore
import Derived.LoopNIn
import Derived.LoopIn
set_option linter.unusedVariables false
set_option linter.unusedSimpArgs false
set_option linter.unusedSectionVars false
namespace Go.Proofs.Ytfnonledcniojaa
open Go Go.RowKit Go.Shelf
variable [FrB]
attribute [local go_sem] Oper.semAt_some
/-- All cells but block B's stay. -/
structure KeepC (B : Nat) (W W' : World) : Prop where
  os : W'.os = W.os
  tape : W'.tape = W.tape
  output : W'.output = W.output
  size : W.heap.size ≤ W'.heap.size
  same : ∀ (k : Nat) (o : Obj), k ≠ B → W.heap[k]? = some o → o.isCells = true → W'.heap[k]? = some o
theorem KeepC.refl (B : Nat) (W : World) : KeepC B W W := ⟨rfl, rfl, rfl, Nat.le_refl _, fun _ _ _ h _ => h⟩
theorem KeepC.trans {B : Nat} {X Y Z : World} (h : KeepC B X Y) (k : KeepC B Y Z) : KeepC B X Z :=
  ⟨k.os.trans h.os, k.tape.trans h.tape, k.output.trans h.output, Nat.le_trans h.size k.size, fun i o hi ho hc => k.same i o hi (h.same i o hi ho hc) hc⟩
theorem KeepC.below {B : Nat} {X Y : World} (h : Below X.heap.size X Y) : KeepC B X Y :=
  ⟨h.os, h.tape, h.output, h.size, fun k o _ ho _ => (h.block k (Array.getElem?_eq_some_iff.1 ho).1).trans ho⟩
theorem KeepC.cell {B : Nat} {X Y : World} (h : KeepC B X Y) {p : Addr} {v : Value} (hp : p.block ≠ B) (hc : X.cell? p = some v) : Y.cell? p = some v := by
  obtain ⟨o, ho, hk⟩ := cells_of_cell hc
  exact (World.cell?_of_block ((h.same _ o hp ho hk).trans ho.symm)).trans hc
theorem KeepC.putObj (B : Nat) (W : World) (l : Nat) (o o' : Obj) (hl : W.heap[l]? = some o) (hc : o.isCells = false) : KeepC B W (W.putObj l o') :=
  have g := grownBy_putObj' W l o'
  ⟨g.os, g.tape, g.output, g.size, fun k q _ hq hqc => by
    have hkl : k ≠ l := fun e => by subst e; rw [hl] at hq; cases hq; rw [hc] at hqc; cases hqc
    exact (g.block k (Array.getElem?_eq_some_iff.1 hq).1 (fun e => hkl (by cases e; rfl))).trans hq⟩
theorem KeepC.setCell (B : Nat) (W : World) (o : Nat) (v : Value) : KeepC B W (W.setCell ⟨B, o, none⟩ v) :=
  ⟨rfl, rfl, rfl, by simp [World.setCell], fun k q hk hq _ => (Below.heap_setCell W ⟨B, o, none⟩ v k hk).trans hq⟩
/-- Pieces as they lie: a slice's cells, and each text's. -/
structure PcsAt (w : World) (b off : Nat) (ms at0 : Nat → Int) (tx : Nat → Option Addr) (tc : Nat → Nat) (bs : Nat → List Int) (n : Nat) : Prop where
  mem : ∀ e, e < n → w.cell? ⟨b, off + e * 3, none⟩ = some (.int .i64 (ms e))
  at_ : ∀ e, e < n → w.cell? ⟨b, off + e * 3 + 1, none⟩ = some (.int .i64 (at0 e))
  txt : ∀ e, e < n → w.cell? ⟨b, off + e * 3 + 2, none⟩ = some (.slice (tx e) (bs e).length (tc e))
  byt : ∀ e, e < n → ∀ j, j < (bs e).length → ∃ tb toff, tx e = some ⟨tb, toff, none⟩ ∧ w.cell? ⟨tb, toff + j, none⟩ = some (.int .u8 ((bs e).getD j 0)) ∧ tb < w.heap.size
/-- All bytes of the first pieces, with whose they are. -/
def allB (ms : Nat → Int) (bs : Nat → List Int) : Nat → List (Int × Int)
  | 0 => []
  | k + 1 => allB ms bs k ++ (bs k).map fun x => (ms k, x)
theorem allB_len (ms : Nat → Int) (bs : Nat → List Int) (k : Nat) : (allB ms bs (k + 1)).length = (allB ms bs k).length + (bs k).length := by simp [allB]
theorem allB_le (ms : Nat → Int) (bs : Nat → List Int) : ∀ {a n : Nat}, a ≤ n → (allB ms bs a).length ≤ (allB ms bs n).length
  | a, 0, h => by obtain rfl : a = 0 := by omega
                  exact Nat.le_refl _
  | a, n + 1, h => by
    by_cases e : a = n + 1
    · rw [e]; exact Nat.le_refl _
    · rw [allB_len]; have := allB_le ms bs (a := a) (n := n) (by omega); omega
set_option maxRecDepth 100000 in
set_option maxHeartbeats 4000000 in
theorem bytes1_in (n : Nat) (hn : 3 ≤ n) (l Bq Bn b off len cap : Nat) (ms at0 : Nat → Int) (tx : Nat → Option Addr) (tc : Nat → Nat) (bs : Nat → List Int) (w : World) (hP : PcsAt w b off ms at0 tx tc bs len) (hb : b < w.heap.size) (hreach : len ≤ 1000000) (hbl : ∀ e, e < len → (bs e).length ≤ 1000000)
    (hBn : w.heap.size ≤ Bn) (hqn : Bq ≠ Bn) (N : Nat) (hN : (allB ms bs len).length ≤ N)
    (J Jx : List (Int × Int) → World → Prop) (W : World) (hW : Below w.heap.size w W) (hBnW : Bn < W.heap.size) (hJ : AbidesFrom W.heap.size J)
    (hMay : CallsIn Fence.wide (n - 1) Try.prog 20 #[.slice (some ⟨b, off, none⟩) len cap] W fun e W' => e = .returned (.bool true) ∧ Below W.heap.size W W')
    (hY : ∀ pre x W1, J pre W1 → pre.length < N → YieldAt Fence.wide (n - 1) Try.prog l #[.int .i64 x.1, .int .u8 x.2] W1 fun e W' =>
      (e = .returned (.bool true) ∧ J (pre ++ [x]) W' ∧ KeepC Bn W1 W') ∨ (e = .returned (.bool false) ∧ Jx (pre ++ [x]) W'))
    (hBqW : Bq < W.heap.size) (hBq : W.cell? ⟨Bq, 0, none⟩ = some (.slice (some ⟨b, off, none⟩) len cap)) (h0 : J [] W) :
    CallsIn Fence.wide n Try.prog 59 #[.func (.yield l) #[] #[], .pointer (some ⟨Bq, 0, none⟩)] W fun e W' => (∃ v, e = .returned v) ∧
      ((∃ ys, ys.length = (allB ms bs len).length ∧ J ys W') ∨ (∃ pre, Jx pre W')) := by
  refine callsIn_of_wp Try.func59 rfl trivial ?_ rfl
  simp only [Try.ntmps59, List.size_toArray, List.length_cons, List.length_nil, Nat.reduceAdd, Nat.reduceSub, Array.replicate_succ, Array.replicate_zero, List.push_toArray, List.append_toArray, List.nil_append, List.cons_append]
  have n1 : 1 ≤ n := by omega
  gi_wp2_with (refine ⟨trivial, ?_⟩; gi_at_call 20; refine hMay.mono ?_; rintro e W2 ⟨rfl, hB2⟩; have hBq2 : W2.cell? ⟨Bq, 0, none⟩ = some (.slice (some ⟨b, off, none⟩) len cap) := (hB2.cell (p := ⟨Bq, 0, none⟩) hBqW).trans hBq)
  have hJ0 : J [] W2 := hJ _ _ _ none h0 ⟨hB2.os, hB2.tape, hB2.output, hB2.size, fun i hi _ => hB2.block i hi⟩ (fun r e => by cases e)
  have bn : b ≠ Bn := by omega
  gi_loopw [12] (fun i wr => ∃ k : Nat, k ≤ len ∧ i = .int .i64 k ∧ J (allB ms bs k) wr ∧ KeepC Bn W2 wr) (fun i _ => len - (intOf i).toNat)
  case atStart => exact ⟨0, Nat.zero_le _, rfl, hJ0, .refl _ _⟩
  case round =>
    obtain ⟨k, hk, rfl, hJs, hKw⟩ := hrel
    have kW : KeepC Bn W wr := (KeepC.below hB2).trans hKw
    by_cases hlt : k < len
    · have c0 : wr.cell? ⟨b, off + k * 3, none⟩ = some (.int .i64 (ms k)) := kW.cell (p := ⟨b, off + k * 3, none⟩) bn ((hW.cell (p := ⟨b, off + k * 3, none⟩) hb).trans (hP.mem k hlt))
      have c1 : wr.cell? ⟨b, off + k * 3 + 1, none⟩ = some (.int .i64 (at0 k)) := kW.cell (p := ⟨b, off + k * 3 + 1, none⟩) bn ((hW.cell (p := ⟨b, off + k * 3 + 1, none⟩) hb).trans (hP.at_ k hlt))
      have c2 : wr.cell? ⟨b, off + k * 3 + 2, none⟩ = some (.slice (tx k) (bs k).length (tc k)) := kW.cell (p := ⟨b, off + k * 3 + 2, none⟩) bn ((hW.cell (p := ⟨b, off + k * 3 + 2, none⟩) hb).trans (hP.txt k hlt))
      gi_wp2
      obtain ⟨W3, hW3⟩ : ∃ W3, wr.alloc (.cells #[.int .i64 (ms k), .int .i64 (at0 k), .slice (tx k) (bs k).length (tc k)] 25) = W3 := ⟨_, rfl⟩
      have hJ3 : J (allB ms bs k) W3 := by rw [← hW3]; exact hJ _ _ _ none hJs (World.grownBy_alloc _ _ none) (fun r e => by cases e)
      have k3 : KeepC Bn wr W3 := by rw [← hW3]; exact .below ((Below.refl _ _).alloc (Nat.le_refl _) _)
      have tn : wr.heap.size ≠ Bn := by have := kW.size; omega
      have t0 : W3.cell? ⟨wr.heap.size, 0, none⟩ = some (.int .i64 (ms k)) := by rw [← hW3]; unfold World.cell?; rw [World.alloc_heap_new]; rfl
      have hbk := hbl k hlt
      rw [hW3]
      obtain ⟨B0, hB0⟩ : ∃ B0, wr.heap.size = B0 := ⟨_, rfl⟩
      rw [hB0] at tn t0 ⊢
      gi_loopw [19] (fun i w3 => ∃ j : Nat, j ≤ (bs k).length ∧ i = .int .i64 j ∧ J (allB ms bs k ++ ((bs k).take j).map fun x => (ms k, x)) w3 ∧ KeepC Bn W3 w3) (fun i _ => (bs k).length - (intOf i).toNat)
      case atStart => exact ⟨0, Nat.zero_le _, rfl, by simpa using hJ3, .refl _ _⟩
      case round =>
        obtain ⟨j, hj, rfl, hJj, hKj⟩ := hrel
        by_cases hjl : j < (bs k).length
        · obtain ⟨tb, toff, htx, hbc, htb⟩ := hP.byt k hlt j hjl
          have hal := allB_len ms bs k
          have hal2 := allB_le ms bs (a := k + 1) (n := len) (by omega)
          have hxe : (bs k).take (j + 1) = (bs k).take j ++ [(bs k).getD j 0] := by rw [List.take_add_one, List.getD_eq_getElem?_getD, List.getElem?_eq_getElem hjl]; rfl
          obtain ⟨x, hx⟩ : ∃ x, (bs k).getD j 0 = x := ⟨_, rfl⟩
          rw [hx] at hbc hxe
          clear hx
          obtain ⟨fn, tmps, assign, body, hy, hR⟩ := hY _ (ms k, x) _ hJj (by simp only [List.length_append, List.length_map, List.length_take]; omega)
          dsimp only at hy
          have t1 := hKj.cell (p := ⟨B0, 0, none⟩) tn t0
          have tbn : tb ≠ Bn := by omega
          have t2 := ((kW.trans k3).trans hKj).cell (p := ⟨tb, toff + j, none⟩) tbn ((hW.cell (p := ⟨tb, toff + j, none⟩) htb).trans hbc)
          clear hbc
          have HX : Hid ((bs k).take (j + 1) = (bs k).take j ++ [x]) := hxe
          clear hxe
          gi_wp2
          refine hR.mono ?_
          rintro e W4 (⟨rfl, hJ4, hk4⟩ | ⟨rfl, hJx4⟩)
          · gi_wp2
            go_roundw
            case rel =>
              rw [htx]
              refine ⟨_, _, _, _, _, _, _, _, _, _, _, _, ⟨j + 1, by omega, ?_, ?_, hKj.trans hk4⟩, rfl⟩
              · simp
              · rw [HX.out, List.map_append, ← List.append_assoc]; exact hJ4
            case measure => simp [intOf]; omega
          · gi_wp2
            refine bodyPost_ret (results_none rfl _ _ _) rfl ?_
            exact ⟨⟨_, rfl⟩, .inr ⟨_, hJx4⟩⟩
        · obtain rfl : j = (bs k).length := by omega
          gi_wp2
          refine ⟨⟨k + 1, by omega, by simp, ?_, (hKw.trans k3).trans hKj⟩, by simp [intOf]; omega⟩
          rw [List.take_length] at hJj
          exact hJj
    · obtain rfl : k = len := by omega
      gi_wp2
      go_end0
      exact ⟨⟨_, rfl⟩, .inl ⟨_, rfl, hJs⟩⟩
set_option maxRecDepth 100000 in
set_option maxHeartbeats 4000000 in
/-- No pieces. -/
theorem bytes1_nil (n : Nat) (hn : 3 ≤ n) (l Bq cap : Nat) (a : Option Addr) (J : List (Int × Int) → World → Prop) (W : World) (hJ : AbidesFrom W.heap.size J)
    (hMay : CallsIn Fence.wide (n - 1) Try.prog 20 #[.slice a 0 cap] W fun e W' => e = .returned (.bool true) ∧ Below W.heap.size W W')
    (hBqW : Bq < W.heap.size) (hBq : W.cell? ⟨Bq, 0, none⟩ = some (.slice a 0 cap)) (h0 : J [] W) :
    CallsIn Fence.wide n Try.prog 59 #[.func (.yield l) #[] #[], .pointer (some ⟨Bq, 0, none⟩)] W fun e W' => (∃ v, e = .returned v) ∧ J [] W' := by
  refine callsIn_of_wp Try.func59 rfl trivial ?_ rfl
  simp only [Try.ntmps59, List.size_toArray, List.length_cons, List.length_nil, Nat.reduceAdd, Nat.reduceSub, Array.replicate_succ, Array.replicate_zero, List.push_toArray, List.append_toArray, List.nil_append, List.cons_append]
  have n1 : 1 ≤ n := by omega
  gi_wp2_with (refine ⟨trivial, ?_⟩; gi_at_call 20; refine hMay.mono ?_; rintro e W2 ⟨rfl, hB2⟩; have hBq2 : W2.cell? ⟨Bq, 0, none⟩ = some (.slice a 0 cap) := (hB2.cell (p := ⟨Bq, 0, none⟩) hBqW).trans hBq)
  have hJ0 : J [] W2 := hJ _ _ _ none h0 ⟨hB2.os, hB2.tape, hB2.output, hB2.size, fun i hi _ => hB2.block i hi⟩ (fun r e => by cases e)
  gi_loopw [12] (fun i wr => i = .int .i64 0 ∧ J [] wr) (fun _ _ => 0)
  case atStart => exact ⟨rfl, hJ0⟩
  case round =>
    obtain ⟨rfl, hJs⟩ := hrel
    gi_wp2
    go_end0
    exact ⟨⟨_, rfl⟩, hJs⟩
set_option maxRecDepth 100000 in
set_option maxHeartbeats 4000000 in
/-- No queue. -/
theorem bytes1_no (n : Nat) (hn : 3 ≤ n) (l Bq len cap : Nat) (a : Option Addr) (J : List (Int × Int) → World → Prop) (W : World) (hJ : AbidesFrom W.heap.size J)
    (hMay : CallsIn Fence.wide (n - 1) Try.prog 20 #[.slice a len cap] W fun e W' => e = .returned (.bool false) ∧ Below W.heap.size W W')
    (hBq : W.cell? ⟨Bq, 0, none⟩ = some (.slice a len cap)) (h0 : J [] W) :
    CallsIn Fence.wide n Try.prog 59 #[.func (.yield l) #[] #[], .pointer (some ⟨Bq, 0, none⟩)] W fun e W' => (∃ v, e = .returned v) ∧ J [] W' := by
  refine callsIn_of_wp Try.func59 rfl trivial ?_ rfl
  simp only [Try.ntmps59, List.size_toArray, List.length_cons, List.length_nil, Nat.reduceAdd, Nat.reduceSub, Array.replicate_succ, Array.replicate_zero, List.push_toArray, List.append_toArray, List.nil_append, List.cons_append]
  have n1 : 1 ≤ n := by omega
  gi_wp2_with (refine ⟨trivial, ?_⟩; gi_at_call 20; refine hMay.mono ?_; rintro e W2 ⟨rfl, hB2⟩)
  have hJ0 : J [] W2 := hJ _ _ _ none h0 ⟨hB2.os, hB2.tape, hB2.output, hB2.size, fun i hi _ => hB2.block i hi⟩ (fun r e => by cases e)
  refine bodyPost_ret (results_none rfl _ _ _) rfl ?_
  exact ⟨⟨_, rfl⟩, hJ0⟩
set_option maxHeartbeats 1000000 in
theorem bytes_in (a : Option Addr) (len cap : Nat) (w : World) (n : Nat) :
    CallsIn Fence.wide n Try.prog 28 #[.slice a len cap] w fun e w' => e = .returned (.func (.func 59) #[] #[.pointer (some ⟨w.heap.size, 0, none⟩)]) ∧ w' = w.alloc (.cells #[.slice a len cap] 22) := by
  refine callsIn_of_wp Try.func28 rfl trivial ?_ rfl
  simp only [Try.ntmps28, List.size_toArray, List.length_cons, List.length_nil, Nat.reduceAdd, Nat.reduceSub, Array.replicate_succ, Array.replicate_zero, List.push_toArray, List.append_toArray, List.nil_append, List.cons_append]
  gi_wp2
  go_ret
  exact ⟨rfl, rfl⟩
/-- The count, as it wraps. -/
def cnt : Nat → Int
  | 0 => 0
  | k + 1 => wrap64 (cnt k + 1)
theorem cnt_eq : ∀ k, k ≤ 1000000 → cnt k = k
  | 0, _ => rfl
  | k + 1, h => by rw [cnt, cnt_eq k (by omega)]; unfold wrap64; omega
/-- What stands for the pieces, in any world behind w: a slice in a, of len pieces. -/
def QAt (w : World) (a : Option Addr) (len : Nat) (ms at0 : Nat → Int) (tx : Nat → Option Addr) (tc : Nat → Nat) (bs : Nat → List Int) : Prop :=
  len = 0 ∨ ∃ b off, a = some ⟨b, off, none⟩ ∧ b < w.heap.size ∧ PcsAt w b off ms at0 tx tc bs len
theorem bytes_stops (n : Nat) (hn : 3 ≤ n) (a : Option Addr) (len cap : Nat) (ms at0 : Nat → Int) (tx : Nat → Option Addr) (tc : Nat → Nat) (bs : Nat → List Int) (w w0 : World) (hQ : QAt w a len ms at0 tx tc bs) (hreach : len ≤ 1000000) (hbl : ∀ e, e < len → (bs e).length ≤ 1000000)
    (may : Bool) (hMay : ∀ W, Below w.heap.size w W → Calls Try.prog 20 #[.slice a len cap] W fun e W' => e = .returned (.bool may) ∧ Below W.heap.size W W')
    (Bq Bn : Nat) (hB : Below w.heap.size w w0) (hBn : w.heap.size ≤ Bn) (hBn0 : Bn < w0.heap.size) (hqn : Bq ≠ Bn) (hBq0 : Bq < w0.heap.size) (hBq : w0.cell? ⟨Bq, 0, none⟩ = some (.slice a len cap)) :
    SeqStopsK Fence.wide n Try.prog 59 #[.pointer (some ⟨Bq, 0, none⟩)] (fun x : Int × Int => #[Value.int .i64 x.1, Value.int .u8 x.2]) (KeepC Bn) (fun ys => ys.length = if may = true then (allB ms bs len).length else 0) (fun _ => True) (if may = true then (allB ms bs len).length else 0) w0 := fun l J Jx W hW hJ _ hY h0 => by
  have hwW : Below w.heap.size w W := hB.trans (hW.mono hB.size)
  have hm := callsIn_wide (n := n - 1) |>.2 (hMay W hwW)
  have hq := (hW.cell (p := ⟨Bq, 0, none⟩) hBq0).trans hBq
  have sz := hW.size
  cases may with
  | false =>
    refine (bytes1_no n hn l Bq len cap a J W hJ hm hq h0).mono fun e W' ⟨he, hj⟩ => ⟨he, .inl ⟨[], ?_, hj⟩⟩
    simp
  | true =>
    rcases hQ with rfl | ⟨b, off, rfl, hb, hP⟩
    · refine (bytes1_nil n hn l Bq cap a J W hJ hm (by omega) hq h0).mono fun e W' ⟨he, hj⟩ => ⟨he, .inl ⟨[], ?_, hj⟩⟩
      simp [allB]
    · refine (bytes1_in n hn l Bq Bn b off len cap ms at0 tx tc bs w hP hb hreach hbl hBn hqn _ (Nat.le_refl _) J Jx W hwW (by omega) hJ hm (by simpa using hY) (by omega) hq h0).mono ?_
      rintro e W' ⟨he, ⟨ys, h1, hj⟩ | ⟨pre, hj⟩⟩
      · exact ⟨he, .inl ⟨ys, by simpa using h1, hj⟩⟩
      · exact ⟨he, .inr ⟨pre, trivial, hj⟩⟩
set_option maxRecDepth 100000 in
set_option maxHeartbeats 4000000 in
/-- merge.Size. -/
theorem size_calls (a : Option Addr) (len cap : Nat) (ms at0 : Nat → Int) (tx : Nat → Option Addr) (tc : Nat → Nat) (bs : Nat → List Int) (w : World) (hQ : QAt w a len ms at0 tx tc bs) (hreach : len ≤ 1000000) (hbl : ∀ e, e < len → (bs e).length ≤ 1000000)
    (may : Bool) (hMay : ∀ W, Below w.heap.size w W → Calls Try.prog 20 #[.slice a len cap] W fun e W' => e = .returned (.bool may) ∧ Below W.heap.size W W') :
    Calls Try.prog 23 #[.slice a len cap] w fun e W' => e = .returned (.int .i64 (cnt (if may = true then (allB ms bs len).length else 0))) ∧ Below w.heap.size w W' := by
  have hst := fun (w0 : World) h1 h2 h3 h4 h5 h6 => bytes_stops (5 - 1) (by omega) a len cap ms at0 tx tc bs w w0 hQ hreach hbl may hMay (w.heap.size + 1) w.heap.size h1 h2 h3 h4 h5 h6
  generalize (if may = true then (allB ms bs len).length else 0) = tot at hst ⊢
  refine (callsIn_wide (n := 5)).1 ?_
  refine callsIn_of_wp_marks Try.func23 rfl trivial ?_ rfl
  simp only [Try.ntmps23, List.size_toArray, List.length_cons, List.length_nil, Nat.reduceAdd, Nat.reduceSub, Array.replicate_succ, Array.replicate_zero, List.push_toArray, List.append_toArray, List.nil_append, List.cons_append]
  have h1 : 1 ≤ 5 := by omega
  gi_wp2_with (refine ⟨trivial, ?_⟩; gi_at_call 28; refine (bytes_in _ _ _ _ _).mono ?_; rintro e w' ⟨rfl, rfl⟩)
  have bS := Boxed.new w 3 (.int .i64 0)
  have bN := Boxed.new (w.alloc (.cells #[.int .i64 0] 3)) 22 (.slice a len cap)
  rw [World.size_alloc] at bN
  have hB0 : Below w.heap.size w ((w.alloc (.cells #[.int .i64 0] 3)).alloc (.cells #[.slice a len cap] 22)) := ((Below.refl _ w).alloc (Nat.le_refl _) _).alloc (by simp) _
  refine wpIn_rangeFunc_ownG rfl h1 (gf := 59) (lb := #[.pointer (some ⟨w.heap.size + 1, 0, none⟩)]) rfl trivial (enters_of Try.func59 (by kernel_rfl) rfl)
    (hst _ hB0 (Nat.le_refl _) (by simp; omega) (by omega) (by simp) bN.cell) KeepC.trans (fun W l o o' _ h hc _ => KeepC.putObj _ W l o o' h hc) (Below.refl _ _) (fun _ => rfl)
    (fun pre W => (W.cell? ⟨w.heap.size, 0, none⟩ = some (.int .i64 (cnt pre.length)) ∧ W.frozen? ⟨w.heap.size, 0, none⟩ = false) ∧ Below w.heap.size w W)
    (fun _ _ _ => False)
    (OwnFrom.and (Own.from (fun s A B row hs hg hr => ⟨cell_kept hs.1 hg hr, (frozen_kept hs.1 hg hr).trans hs.2⟩) _) (ownFrom_below (Nat.le_refl _) (by simp; omega)))
    (fun _ _ _ _ _ hs _ _ => hs)
    ⟨⟨(bS.alloc _).cell, (bS.alloc _).frozen⟩, hB0⟩
    (fun x => { tmps := #[.slice a len cap, undef, .int .i64 0, .pointer (some ⟨w.heap.size, 0, none⟩), .slice a len cap, .func (.func 59) #[] #[.pointer (some ⟨w.heap.size + 1, 0, none⟩)], .int .i64 x.1, .int .u8 x.2, undef, undef, undef], defers := [] }) ?assign ?body ?done ?stop
  case assign =>
    intro l x W K hK
    gi_wp2
    have hz : (#[6, 7] : Array Tmp).zip #[Value.int .i64 x.1, Value.int .u8 x.2] = #[(6, Value.int .i64 x.1), (7, Value.int .u8 x.2)] := by simp [List.zip_toArray]
    rw [hz]
    simp only [List.foldl_toArray', List.foldl_cons, List.foldl_nil, List.setIfInBounds_toArray, List.set_cons_succ, List.set_cons_zero]
    exact hK
  case body =>
    rintro l pre x W ⟨⟨hc, hf⟩, hB⟩ _
    gi_wp2
    exact ⟨(KeepsOthers.setCell _ _ _).from _, KeepC.setCell _ W 0 _, ⟨by rw [List.length_append, List.length_singleton, cnt]; exact World.cell?_setCell_same' _ _ _ (by rw [hc]; rfl), by rw [World.frozen?_setCell]; exact hf⟩, hB.setCell (p := ⟨w.heap.size, 0, none⟩) (Nat.le_refl _) _⟩
  case done =>
    rintro D ys W hD hys ⟨⟨hc, _⟩, hB⟩ hK
    rw [hys] at hc
    gi_wp2
    refine ⟨by simp, .inl ⟨_, _, rfl, run_takeDeferred hK, ?_⟩⟩
    exact ⟨_, results_tmp rfl _ _ _, rfl, hB.trans (belowK_b (w := w) (Nat.le_refl _) W D _ _ (by simp at hD; omega) hK rfl rfl)⟩
  case stop =>
    rintro D c pre W _ _ h _
    exact h.elim
/-! ### The entry -/
theorem rs_slice {w : World} {X : Nat → Prop} {k : Nat} {es : List (List AV)} {f : Bool} {z : Value} (h : RepS w X (.data false k es f) z) : ∃ a cap, z = .slice a es.length cap ∧
    (es = [] ∨ ∃ (b off : Nat) (val : Nat → Nat → Value), a = some ⟨b, off, none⟩ ∧ b < w.heap.size ∧ (∀ (e j : Nat), e < es.length → j < k → w.cell? ⟨b, off + (e * k + j), none⟩ = some (val e j) ∧ (val e j).oneCell' = true) ∧
      (∀ (e j : Nat) g c, es[e]? = some g → g[j]? = some c → RepS w X c (val e j))) := by
  cases h with
  | data0 _ _ a cap h => exact ⟨a, cap, rfl, .inl rfl⟩
  | data _ _ _ b off cap val h1 h2 h3 h4 h5 h6 h7 h8 => exact ⟨_, cap, rfl, .inr ⟨b, off, val, rfl, h5, h6, h7⟩⟩
def mF : Nat → Option AEnt := fun f => if f = n_merge_May then some (.fn c_merge_May) else if f = n_merge_piece then some (.fn c_merge_piece) else none
theorem mF_ok (G : Nat → Option (List AV)) : EntOk Try.prog G mF := by
  intro f ent hf
  unfold mF at hf
  split at hf
  · rename_i e; cases hf; subst e; exact chk_merge_May
  · split at hf
    · rename_i e; cases hf; subst e; exact chk_merge_piece
    · cases hf
theorem byt_of : ∀ (t : List (List AV)) (l : List Int), bytOf t = some l → t = byt l
  | [], l, h => by simp [bytOf] at h; subst h; rfl
  | g :: t, l, h => by
    unfold bytOf at h
    rw [List.mapM_cons] at h
    obtain ⟨x, hx, h⟩ := opt_bind_some.1 h
    obtain ⟨l', hl', h⟩ := opt_bind_some.1 h
    cases h
    have ih := byt_of t l' hl'
    split at hx
    · cases hx; rw [ih]; rfl
    · cases hx
theorem pc_of (g : List AV) (x : Pc) (h : pcOf g = some x) : g = pcell x := by
  unfold pcOf at h
  split at h
  · obtain ⟨l, hl, rfl⟩ := opt_map_some.1 h
    rw [byt_of _ _ hl]; rfl
  · cases h
theorem pcs_of : ∀ (es : List (List AV)) (q : List Pc), es.mapM pcOf = some q → es = pcs q
  | [], q, h => by simp at h; subst h; rfl
  | g :: es, q, h => by
    rw [List.mapM_cons] at h
    obtain ⟨x, hx, h⟩ := opt_bind_some.1 h
    obtain ⟨l', hl', h⟩ := opt_bind_some.1 h
    cases h
    rw [pcs_of es l' hl', pc_of g x hx]; rfl
theorem data_alone {ρ : Rho} {w : World} {S O : Nat → Prop} {bo : Bool} {k : Nat} {es : List (List AV)} {f : Bool} {x : Value} (h : RepV ρ w S O (.data bo k es f) x) : RepV (fun _ => none) w (fun b => S b ∨ O b) (fun _ => False) (.data bo k es f) x := by
  have e : (fun b => (S b ∨ O b) ∨ False) = fun b => S b ∨ O b := by funext b; simp
  cases h with
  | s h => exact .s (by rw [e]; exact h)
  | bor0 _ _ a cap h => exact .bor0 _ _ a cap h
  | bor _ _ _ b off cap val h1 h2 h3 h4 h5 h6 h7 => exact .bor _ _ _ b off cap val h1 h2 h3 (fun h => h) h5 h6 (fun i j g c hg hc => (h7 i j g c hg hc).mono fun b hb => False.elim (hb.elim id id))
theorem may_calls {S : Nat → Prop} {bo f : Bool} (q : List Pc) (hl : q.length ≤ 1000000) (hb : ∀ x ∈ q, x.2.2.1.length ≤ 1000000) (x : Value) (W : World) (hS : ∀ b, S b → b < W.heap.size) (hx : RepV (fun _ => none) W S (fun _ => False) (.data bo 3 (pcs q) f) x) :
    Calls Try.prog 20 #[x] W fun e W' => e = .returned (.bool (mayQ 0 q)) ∧ Below W.heap.size W W' := by
  have hr := may_any (fun _ => none) mF rfl rfl q bo f (by omega) (fun x hx => by have := hb x hx; omega)
  obtain ⟨r, h1, h2⟩ := opt_bind_some.1 hr
  have hv := frz_bool h2
  obtain ⟨v, h'⟩ := r
  simp only at hv
  subst hv
  have K := (aR_ok mixFT (mF_ok (fun _ => none)) n_merge_May [.data bo 3 (pcs q) f] [] _ h' h1).2 (fun _ => none) W S (fun _ => False) [x] ⟨fun id g pl h => (nomatch h), fun id id' g g' p p' h => (nomatch h), fun b hb => hb.elim (hS b) False.elim, fun _ hb => hb.elim⟩ (fun g cs h => by cases h) (repL_cons hx repL_nil)
  refine Calls.mono K fun e w' ⟨y, e1, ρ', O', A, _, _, hy, _⟩ => ⟨?_, ⟨A.os, A.tape, A.output, A.size, fun k hk => A.same k hk (fun h => h)⟩⟩
  cases hy with
  | s h => cases h; exact e1
theorem sizeQ_append (a b : List Pc) : sizeQ (a ++ b) = sizeQ a + sizeQ b := by simp [sizeQ]
theorem sizeQ_allB : ∀ (q : List Pc) (k : Nat), k ≤ q.length → (allB (fun e => (q.getD e (0, 0, [], false)).1) (fun e => (q.getD e (0, 0, [], false)).2.2.1) k).length = sizeQ (q.take k)
  | q, 0, _ => rfl
  | q, k + 1, h => by
    have hk : k < q.length := by omega
    have e : q.take (k + 1) = q.take k ++ [q[k]] := by rw [List.take_add_one, List.getElem?_eq_getElem hk]; rfl
    rw [allB_len, sizeQ_allB q k (by omega), e, sizeQ_append]
    have e2 : q.getD k (0, 0, [], false) = q[k] := by rw [List.getD_eq_getElem?_getD, List.getElem?_eq_getElem hk]; rfl
    simp only [e2]
    simp [sizeQ]
theorem ext_merge_Size (G : Nat → Option (List AV)) : ∀ args h v h', extSize args h = some (v, h') → KeepK h h' ∧ (∃ fn, (Try.prog).funcs[23]? = some fn ∧ fn.name ≠ "runtime.NumGoroutine" ∧ fn.body.isSome = true) ∧
    ∀ (ρ : Rho) (w : World) (S O : Nat → Prop) (xs : List Value), Heap ρ w S O h → (∀ g cs, G g = some cs → RepV ρ w S O (.dptr cs) (.pointer (some ⟨g, 0, none⟩))) → RepL (RepV ρ w S O) args xs →
      Calls Try.prog 23 xs.toArray w fun e w' => ∃ x, e = .returned x ∧ ResW ρ w S O h v h' x w' := by
  intro args h v h' he
  unfold extSize at he
  split at he
  case h_2 => cases he
  rename_i bo es f
  obtain ⟨q, hq, he⟩ := opt_bind_some.1 he
  split at he
  case isFalse => cases he
  rename_i hc
  obtain ⟨hl, hbl, hs⟩ := hc
  cases he
  have := pcs_of es q hq
  subst this
  refine ⟨KeepK.refl _, ⟨Try.f23, Try.func23, by decide, by kernel_rfl⟩, fun ρ w S O xs H hG hargs => ?_⟩
  cases xs with
  | nil => have := hargs.1; simp at this
  | cons x xs =>
    obtain ⟨hx, hr⟩ := hargs.uncons
    have : xs = [] := List.eq_nil_of_length_eq_zero (by have := hr.1; simpa using this.symm)
    subst this
    have hx2 := data_alone hx
    have hS : ∀ b, (S b ∨ O b) → b < w.heap.size := fun b hb => H.bd b hb
    obtain ⟨a, cap, rfl, h1, h2, h3, h4⟩ := rv_data hx
    have hln := pcs_len q
    let d : Pc := (0, 0, [], false)
    have hmay : ∀ W, Below w.heap.size w W → Calls Try.prog 20 #[.slice a (pcs q).length cap] W fun e W' => e = .returned (.bool (mayQ 0 q)) ∧ Below W.heap.size W W' := fun W hW =>
      may_calls (S := fun b => S b ∨ O b) (bo := bo) (f := f) q hl hbl _ W (fun b hb => Nat.lt_of_lt_of_le (hS b hb) hW.size) (hx2.advX (fun id g pl h => by cases h) ⟨hW.os, hW.tape, hW.output, hW.size, fun b hb _ => hW.block b hb, fun b h => .inl h⟩)
    have fin : ∀ tx tc, QAt w a (pcs q).length (fun e => (q.getD e (0, 0, [], false)).1) (fun e => (q.getD e (0, 0, [], false)).2.1) tx tc (fun e => (q.getD e (0, 0, [], false)).2.2.1) →
        Calls Try.prog 23 [Value.slice a (pcs q).length cap].toArray w fun e w' => ∃ x, e = .returned x ∧ ResW ρ w S O h (.int .i64 (if mayQ 0 q = true then sizeQ q else 0)) h x w' := fun tx tc hQ => by
      refine (size_calls a _ cap _ _ tx tc _ w hQ (by omega) (fun e he => ?_) _ hmay).mono fun e w' ⟨he, hB⟩ => ?_
      · rw [List.getD_eq_getElem?_getD, List.getElem?_eq_getElem (by omega)]
        exact hbl _ (List.getElem_mem _)
      · have hA : AdvW w O w' O := ⟨hB.os, hB.tape, hB.output, hB.size, fun b hb _ => hB.block b hb, fun _ h => h, fun _ h => .inl h⟩
        refine ⟨_, he, ρ, O, hA.x, Ext.refl ρ, H.step (.refl ρ) hA (fun b hb => Nat.lt_of_lt_of_le (H.bd b (.inr hb)) hA.size) (fun _ _ p hid => .inl ⟨hid, rfl, fun p hp => hB.block _ (by subst hp; obtain ⟨r, _, _, hR⟩ := H.row _ _ _ hid; exact H.bd _ (.inr hR.own))⟩) H.inj, ?_, fun _ _ h => h⟩
        have e2 : (allB (fun e => (q.getD e (0, 0, [], false)).1) (fun e => (q.getD e (0, 0, [], false)).2.2.1) (pcs q).length).length = sizeQ q := by rw [hln, sizeQ_allB q q.length (Nat.le_refl _), List.take_length]
        rw [e2, cnt_eq _ (by split <;> omega)]
        have e3 : (((if mayQ 0 q = true then sizeQ q else 0 : Nat)) : Int) = if mayQ 0 q = true then ((sizeQ q : Nat) : Int) else 0 := by split <;> rfl
        rw [e3]
        exact .s (.int _ _)
    rcases h4 with h4 | ⟨b, off, val, rfl, _, _, hb, hcell, hrep⟩
    · exact fin (fun _ => none) (fun _ => 0) (.inl (by rw [h4]; rfl))
    · have at_ : ∀ e, e < q.length → ∃ x, q.getD e (0, 0, [], false) = x ∧ (pcs q)[e]? = some [.int .i64 x.1, .int .i64 x.2.1, .data false 1 (byt x.2.2.1) x.2.2.2] := fun e he => ⟨_, rfl, by rw [pcs_at he, List.getD_eq_getElem?_getD, List.getElem?_eq_getElem he]; rfl⟩
      refine fin (fun e => match val e 2 with | .slice a _ _ => a | _ => none) (fun e => match val e 2 with | .slice _ _ c => c | _ => 0) (.inr ⟨b, off, rfl, hb, ?_, ?_, ?_, ?_⟩)
      · intro e he
        obtain ⟨x, hx, hg⟩ := at_ e (by omega)
        have c := (hcell e 0 he (by omega)).1
        have r := hrep e 0 _ _ hg rfl
        rw [hx]
        generalize val e 0 = z at c r
        cases r
        exact c
      · intro e he
        obtain ⟨x, hx, hg⟩ := at_ e (by omega)
        have c := (hcell e 1 he (by omega)).1
        have r := hrep e 1 _ _ hg rfl
        rw [hx]
        generalize val e 1 = z at c r
        cases r
        exact c
      · intro e he
        obtain ⟨x, hx, hg⟩ := at_ e (by omega)
        have c := (hcell e 2 he (by omega)).1
        have r := hrep e 2 _ _ hg rfl
        simp only [hx]
        generalize val e 2 = z at c r ⊢
        obtain ⟨a', cap', rfl, _⟩ := rs_slice r
        rw [byt_len] at c
        exact c
      · intro e he j hj
        obtain ⟨x, hx, hg⟩ := at_ e (by omega)
        have r := hrep e 2 _ _ hg rfl
        simp only [hx] at hj ⊢
        generalize val e 2 = z at r ⊢
        obtain ⟨a', cap', rfl, r4⟩ := rs_slice r
        rcases r4 with r4 | ⟨tb, toff, tv, rfl, htb, hc, hrp⟩
        · have := congrArg List.length r4
          rw [byt_len] at this
          simp only [List.length_nil] at this
          omega
        · refine ⟨tb, toff, rfl, ?_, htb⟩
          have c := (hc j 0 (by rw [byt_len]; exact hj) (by omega)).1
          have hg2 : (byt x.2.2.1)[j]? = some [.int .u8 x.2.2.1[j]] := by simp [byt, hj]
          have r := hrp j 0 _ _ hg2 rfl
          rw [List.getD_eq_getElem?_getD, List.getElem?_eq_getElem hj]
          rw [Nat.mul_one, Nat.add_zero] at c
          generalize tv j 0 = z at c r
          cases r
          exact c
end Go.Proofs.Ytfnonledcniojaa
