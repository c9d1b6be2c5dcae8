/- What going over a queue's bytes tells, and in which order. Conditions: as each statement says. -/
import Derived.Test.YtfnonledcniojaaCj
import Derived.Test.YtfnonledcniojaaSzx
import Derived.Test.YtfnonledcniojaaM3
import Derived.Test.YtfnonledcniojaaChecked
import Derived.RangeFuncNested
import Derived.RangeFuncBound
import Derived.RangeFuncCalls
import Derived.RangeFuncLeaves
import Derived.RangeFuncBox
import Derived.Shelf.Abstract
import Derived.Shelf.RegionOpen
import Derived.WalkKit
import Derived.OwnWalkIn
import Derived.TacticsInMore
import Derived.LoopNIn
import Derived.LoopIn
set_option linter.unusedVariables false
set_option linter.unusedSimpArgs false
set_option linter.unusedSectionVars false
namespace Go.Proofs.Ytfnonledcniojaa
open Go Go.RowKit Go.Shelf
attribute [local go_sem] Oper.semAt_some
theorem allB_mono (ms : Nat → Int) (bs : Nat → List Int) : ∀ {a n : Nat}, a ≤ n → allB ms bs a <+: allB ms bs n
  | a, 0, h => by obtain rfl : a = 0 := by omega
                  exact List.prefix_rfl
  | a, n + 1, h => by
    by_cases e : a = n + 1
    · rw [e]; exact List.prefix_rfl
    · exact (allB_mono ms bs (a := a) (n := n) (by omega)).trans (List.prefix_append _ _)
theorem allB_pre (ms : Nat → Int) (bs : Nat → List Int) {k n : Nat} (h : k < n) (t : List Int) (ht : t <+: bs k) : allB ms bs k ++ t.map (fun x => (ms k, x)) <+: allB ms bs n := by
  refine List.IsPrefix.trans ?_ (allB_mono ms bs (a := k + 1) (n := n) h)
  rw [allB, List.prefix_append_right_inj]
  exact ht.map _
set_option maxRecDepth 100000 in
set_option maxHeartbeats 4000000 in
theorem bytes1_tell (n : Nat) (hn : 3 ≤ n) (l Bq bo Bn b off len cap : Nat) (ms at0 : Nat → Int) (tx : Nat → Option Addr) (tc : Nat → Nat) (bs : Nat → List Int) (w : World) (hP : PcsAt w b off ms at0 tx tc bs len) (hb : b < w.heap.size) (hreach : len ≤ 1000000) (hbl : ∀ e, e < len → (bs e).length ≤ 1000000)
    (bn : b ≠ Bn) (htn : ∀ e, e < len → ∀ tb toff, tx e = some ⟨tb, toff, none⟩ → 0 < (bs e).length → tb ≠ Bn) (hqn : Bq ≠ Bn) (N : Nat) (hN : (allB ms bs len).length ≤ N)
    (J Jx : List (Int × Int) → World → Prop) (W : World) (hW : Below w.heap.size w W) (hBnW : Bn < W.heap.size) (hJ : AbidesFrom W.heap.size J)
    (hMay : CallsIn Fence.wide (n - 1) Try.prog 20 #[.slice (some ⟨b, off, none⟩) len cap] W fun e W' => e = .returned (.bool true) ∧ Below W.heap.size W W')
    (hY : ∀ pre x W1, J pre W1 → pre.length < N → YieldAt Fence.wide (n - 1) Try.prog l #[.int .i64 x.1, .int .u8 x.2] W1 fun e W' =>
      (e = .returned (.bool true) ∧ J (pre ++ [x]) W' ∧ KeepC Bn W1 W') ∨ (e = .returned (.bool false) ∧ Jx (pre ++ [x]) W'))
    (hBqW : Bq < W.heap.size) (hBq : W.cell? ⟨Bq, bo, none⟩ = some (.slice (some ⟨b, off, none⟩) len cap)) (h0 : J [] W) :
    CallsIn Fence.wide n Try.prog 59 #[.func (.yield l) #[] #[], .pointer (some ⟨Bq, bo, none⟩)] W fun e W' => (∃ v, e = .returned v) ∧
      (J (allB ms bs len) W' ∨ (∃ pre, pre <+: allB ms bs len ∧ Jx pre W')) := by
  refine callsIn_of_wp Try.func59 rfl trivial ?_ rfl
  simp only [Try.ntmps59, List.size_toArray, List.length_cons, List.length_nil, Nat.reduceAdd, Nat.reduceSub, Array.replicate_succ, Array.replicate_zero, List.push_toArray, List.append_toArray, List.nil_append, List.cons_append]
  have n1 : 1 ≤ n := by omega
  gi_wp2_with (refine ⟨trivial, ?_⟩; gi_at_call 20; refine hMay.mono ?_; rintro e W2 ⟨rfl, hB2⟩; have hBq2 : W2.cell? ⟨Bq, bo, none⟩ = some (.slice (some ⟨b, off, none⟩) len cap) := (hB2.cell (p := ⟨Bq, bo, none⟩) hBqW).trans hBq)
  have hJ0 : J [] W2 := hJ _ _ _ none h0 ⟨hB2.os, hB2.tape, hB2.output, hB2.size, fun i hi _ => hB2.block i hi⟩ (fun r e => by cases e)
  gi_loopw [12] (fun i wr => ∃ k : Nat, k ≤ len ∧ i = .int .i64 k ∧ J (allB ms bs k) wr ∧ KeepC Bn W2 wr) (fun i _ => len - (intOf i).toNat)
  case atStart => exact ⟨0, Nat.zero_le _, rfl, hJ0, .refl _ _⟩
  case round =>
    obtain ⟨k, hk, rfl, hJs, hKw⟩ := hrel
    have kW : KeepC Bn W wr := (KeepC.below hB2).trans hKw
    by_cases hlt : k < len
    · have c0 : wr.cell? ⟨b, off + k * 3, none⟩ = some (.int .i64 (ms k)) := kW.cell (p := ⟨b, off + k * 3, none⟩) bn ((hW.cell (p := ⟨b, off + k * 3, none⟩) hb).trans (hP.mem k hlt))
      have c1 : wr.cell? ⟨b, off + k * 3 + 1, none⟩ = some (.int .i64 (at0 k)) := kW.cell (p := ⟨b, off + k * 3 + 1, none⟩) bn ((hW.cell (p := ⟨b, off + k * 3 + 1, none⟩) hb).trans (hP.at_ k hlt))
      have c2 : wr.cell? ⟨b, off + k * 3 + 2, none⟩ = some (.slice (tx k) (bs k).length (tc k)) := kW.cell (p := ⟨b, off + k * 3 + 2, none⟩) bn ((hW.cell (p := ⟨b, off + k * 3 + 2, none⟩) hb).trans (hP.txt k hlt))
      gi_wp2
      obtain ⟨W3, hW3⟩ : ∃ W3, wr.alloc (.cells #[.int .i64 (ms k), .int .i64 (at0 k), .slice (tx k) (bs k).length (tc k)] 25) = W3 := ⟨_, rfl⟩
      have hJ3 : J (allB ms bs k) W3 := by rw [← hW3]; exact hJ _ _ _ none hJs (World.grownBy_alloc _ _ none) (fun r e => by cases e)
      have k3 : KeepC Bn wr W3 := by rw [← hW3]; exact .below ((Below.refl _ _).alloc (Nat.le_refl _) _)
      have tn : wr.heap.size ≠ Bn := by have := kW.size; omega
      have t0 : W3.cell? ⟨wr.heap.size, 0, none⟩ = some (.int .i64 (ms k)) := by rw [← hW3]; unfold World.cell?; rw [World.alloc_heap_new]; rfl
      have hbk := hbl k hlt
      rw [hW3]
      obtain ⟨B0, hB0⟩ : ∃ B0, wr.heap.size = B0 := ⟨_, rfl⟩
      rw [hB0] at tn t0 ⊢
      gi_loopw [19] (fun i w3 => ∃ j : Nat, j ≤ (bs k).length ∧ i = .int .i64 j ∧ J (allB ms bs k ++ ((bs k).take j).map fun x => (ms k, x)) w3 ∧ KeepC Bn W3 w3) (fun i _ => (bs k).length - (intOf i).toNat)
      case atStart => exact ⟨0, Nat.zero_le _, rfl, by simpa using hJ3, .refl _ _⟩
      case round =>
        obtain ⟨j, hj, rfl, hJj, hKj⟩ := hrel
        by_cases hjl : j < (bs k).length
        · obtain ⟨tb, toff, htx, hbc, htb⟩ := hP.byt k hlt j hjl
          have hal := allB_len ms bs k
          have hal2 := allB_le ms bs (a := k + 1) (n := len) (by omega)
          have hxe : (bs k).take (j + 1) = (bs k).take j ++ [(bs k).getD j 0] := by rw [List.take_add_one, List.getD_eq_getElem?_getD, List.getElem?_eq_getElem hjl]; rfl
          obtain ⟨x, hx⟩ : ∃ x, (bs k).getD j 0 = x := ⟨_, rfl⟩
          rw [hx] at hbc hxe
          clear hx
          obtain ⟨fn, tmps, assign, body, hy, hR⟩ := hY _ (ms k, x) _ hJj (by simp only [List.length_append, List.length_map, List.length_take]; omega)
          dsimp only at hy
          have t1 := hKj.cell (p := ⟨B0, 0, none⟩) tn t0
          have tbn : tb ≠ Bn := htn k hlt tb toff htx (by omega)
          have t2 := ((kW.trans k3).trans hKj).cell (p := ⟨tb, toff + j, none⟩) tbn ((hW.cell (p := ⟨tb, toff + j, none⟩) htb).trans hbc)
          clear hbc
          have HX : Hid ((bs k).take (j + 1) = (bs k).take j ++ [x]) := hxe
          clear hxe
          gi_wp2
          refine hR.mono ?_
          rintro e W4 (⟨rfl, hJ4, hk4⟩ | ⟨rfl, hJx4⟩)
          · gi_wp2
            go_roundw
            case rel =>
              rw [htx]
              refine ⟨_, _, _, _, _, _, _, _, _, _, _, _, ⟨j + 1, by omega, ?_, ?_, hKj.trans hk4⟩, rfl⟩
              · simp
              · rw [HX.out, List.map_append, ← List.append_assoc]; exact hJ4
            case measure => simp [intOf]; omega
          · gi_wp2
            refine bodyPost_ret (results_none rfl _ _ _) rfl ?_
            refine ⟨⟨_, rfl⟩, .inr ⟨_, ?_, hJx4⟩⟩
            have := allB_pre ms bs (k := k) (n := len) hlt ((bs k).take (j + 1)) (List.take_prefix _ _)
            rw [HX.out, List.map_append, ← List.append_assoc] at this
            exact this
        · obtain rfl : j = (bs k).length := by omega
          gi_wp2
          refine ⟨⟨k + 1, by omega, by simp, ?_, (hKw.trans k3).trans hKj⟩, by simp [intOf]; omega⟩
          rw [List.take_length] at hJj
          exact hJj
    · obtain rfl : k = len := by omega
      gi_wp2
      go_end0
      exact ⟨⟨_, rfl⟩, .inl hJs⟩
set_option maxRecDepth 100000 in
set_option maxHeartbeats 4000000 in
/-- No pieces. -/
theorem bytes1_nilT (n : Nat) (hn : 3 ≤ n) (l Bq bo cap : Nat) (a : Option Addr) (J : List (Int × Int) → World → Prop) (W : World) (hJ : AbidesFrom W.heap.size J)
    (hMay : CallsIn Fence.wide (n - 1) Try.prog 20 #[.slice a 0 cap] W fun e W' => e = .returned (.bool true) ∧ Below W.heap.size W W')
    (hBqW : Bq < W.heap.size) (hBq : W.cell? ⟨Bq, bo, none⟩ = some (.slice a 0 cap)) (h0 : J [] W) :
    CallsIn Fence.wide n Try.prog 59 #[.func (.yield l) #[] #[], .pointer (some ⟨Bq, bo, none⟩)] W fun e W' => (∃ v, e = .returned v) ∧ J [] W' := by
  refine callsIn_of_wp Try.func59 rfl trivial ?_ rfl
  simp only [Try.ntmps59, List.size_toArray, List.length_cons, List.length_nil, Nat.reduceAdd, Nat.reduceSub, Array.replicate_succ, Array.replicate_zero, List.push_toArray, List.append_toArray, List.nil_append, List.cons_append]
  have n1 : 1 ≤ n := by omega
  gi_wp2_with (refine ⟨trivial, ?_⟩; gi_at_call 20; refine hMay.mono ?_; rintro e W2 ⟨rfl, hB2⟩; have hBq2 : W2.cell? ⟨Bq, bo, none⟩ = some (.slice a 0 cap) := (hB2.cell (p := ⟨Bq, bo, none⟩) hBqW).trans hBq)
  have hJ0 : J [] W2 := hJ _ _ _ none h0 ⟨hB2.os, hB2.tape, hB2.output, hB2.size, fun i hi _ => hB2.block i hi⟩ (fun r e => by cases e)
  gi_loopw [12] (fun i wr => i = .int .i64 0 ∧ J [] wr) (fun _ _ => 0)
  case atStart => exact ⟨rfl, hJ0⟩
  case round =>
    obtain ⟨rfl, hJs⟩ := hrel
    gi_wp2
    go_end0
    exact ⟨⟨_, rfl⟩, hJs⟩
set_option maxRecDepth 100000 in
set_option maxHeartbeats 4000000 in
/-- No queue. -/
theorem bytes1_noT (n : Nat) (hn : 3 ≤ n) (l Bq bo len cap : Nat) (a : Option Addr) (J : List (Int × Int) → World → Prop) (W : World) (hJ : AbidesFrom W.heap.size J)
    (hMay : CallsIn Fence.wide (n - 1) Try.prog 20 #[.slice a len cap] W fun e W' => e = .returned (.bool false) ∧ Below W.heap.size W W')
    (hBq : W.cell? ⟨Bq, bo, none⟩ = some (.slice a len cap)) (h0 : J [] W) :
    CallsIn Fence.wide n Try.prog 59 #[.func (.yield l) #[] #[], .pointer (some ⟨Bq, bo, none⟩)] W fun e W' => (∃ v, e = .returned v) ∧ J [] W' := by
  refine callsIn_of_wp Try.func59 rfl trivial ?_ rfl
  simp only [Try.ntmps59, List.size_toArray, List.length_cons, List.length_nil, Nat.reduceAdd, Nat.reduceSub, Array.replicate_succ, Array.replicate_zero, List.push_toArray, List.append_toArray, List.nil_append, List.cons_append]
  have n1 : 1 ≤ n := by omega
  gi_wp2_with (refine ⟨trivial, ?_⟩; gi_at_call 20; refine hMay.mono ?_; rintro e W2 ⟨rfl, hB2⟩)
  have hJ0 : J [] W2 := hJ _ _ _ none h0 ⟨hB2.os, hB2.tape, hB2.output, hB2.size, fun i hi _ => hB2.block i hi⟩ (fun r e => by cases e)
  refine bodyPost_ret (results_none rfl _ _ _) rfl ?_
  exact ⟨⟨_, rfl⟩, hJ0⟩
theorem bytes_tells (n : Nat) (hn : 3 ≤ n) (a : Option Addr) (len cap : Nat) (ms at0 : Nat → Int) (tx : Nat → Option Addr) (tc : Nat → Nat) (bs : Nat → List Int) (w w0 : World) (hQ : QAt w a len ms at0 tx tc bs) (hreach : len ≤ 1000000) (hbl : ∀ e, e < len → (bs e).length ≤ 1000000)
    (may : Bool) (hMay : ∀ W, Below w.heap.size w W → Calls Try.prog 20 #[.slice a len cap] W fun e W' => e = .returned (.bool may) ∧ Below W.heap.size W W')
    (Bq bo Bn : Nat) (hB : Below w.heap.size w w0) (hbn : ∀ b off, a = some ⟨b, off, none⟩ → 0 < len → b ≠ Bn) (htn : ∀ e, e < len → ∀ tb toff, tx e = some ⟨tb, toff, none⟩ → 0 < (bs e).length → tb ≠ Bn) (hBn0 : Bn < w0.heap.size) (hqn : Bq ≠ Bn) (hBq0 : Bq < w0.heap.size) (hBq : w0.cell? ⟨Bq, bo, none⟩ = some (.slice a len cap)) :
    SeqStopsK Fence.wide n Try.prog 59 #[.pointer (some ⟨Bq, bo, none⟩)] (fun x : Int × Int => #[Value.int .i64 x.1, Value.int .u8 x.2]) (KeepC Bn) (fun ys => ys = if may = true then allB ms bs len else []) (fun pre => pre <+: if may = true then allB ms bs len else []) (if may = true then (allB ms bs len).length else 0) w0 := fun l J Jx W hW hJ _ hY h0 => by
  have hwW : Below w.heap.size w W := hB.trans (hW.mono hB.size)
  have hm := callsIn_wide (n := n - 1) |>.2 (hMay W hwW)
  have hq := (hW.cell (p := ⟨Bq, bo, none⟩) hBq0).trans hBq
  have sz := hW.size
  cases may with
  | false =>
    refine (bytes1_noT n hn l Bq bo len cap a J W hJ hm hq h0).mono fun e W' ⟨he, hj⟩ => ⟨he, .inl ⟨[], ?_, hj⟩⟩
    simp
  | true =>
    by_cases h0l : len = 0
    · subst h0l
      refine (bytes1_nilT n hn l Bq bo cap a J W hJ hm (by omega) hq h0).mono fun e W' ⟨he, hj⟩ => ⟨he, .inl ⟨[], ?_, hj⟩⟩
      simp [allB]
    · obtain ⟨b, off, rfl, hb, hP⟩ := hQ.resolve_left h0l
      refine (bytes1_tell n hn l Bq bo Bn b off len cap ms at0 tx tc bs w hP hb hreach hbl (hbn b off rfl (by omega)) htn hqn _ (Nat.le_refl _) J Jx W hwW (by omega) hJ hm (by simpa using hY) (by omega) hq h0).mono ?_
      rintro e W' ⟨he, hj | ⟨pre, hp, hj⟩⟩
      · exact ⟨he, .inl ⟨_, rfl, hj⟩⟩
      · exact ⟨he, .inr ⟨pre, hp, hj⟩⟩
end Go.Proofs.Ytfnonledcniojaa
