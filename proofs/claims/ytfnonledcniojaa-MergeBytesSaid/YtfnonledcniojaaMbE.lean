/- MergeBytes: the range over the queue's bytes. Conditions: as the statements say. -/
import Derived.Test.YtfnonledcniojaaMbD
set_option linter.unusedVariables false
set_option linter.unusedSimpArgs false
set_option linter.unusedSectionVars false
namespace Go.Proofs.Ytfnonledcniojaa
open Go Go.RowKit Go.Shelf
/-- The state at the range. -/
abbrev stR (left : Int) (q : List Pc) (f : Bool) (wh : List (Int × Int)) (turn : Int) (m : Nat) : ASt := ⟨envR (niC wh), hpC left q f wh turn ++ [rowN m]⟩
theorem pre_get {α : Type} {pre wh : List α} {x : α} (h : pre ++ [x] <+: wh) : ∃ h : pre.length < wh.length, wh[pre.length] = x := by
  obtain ⟨r, rfl⟩ := h
  exact ⟨by simp, by simp⟩
theorem pre_add {α : Type} {pre wh : List α} {x : α} (h : pre <+: wh) (hl : pre.length < wh.length) (hx : wh[pre.length] = x) : pre ++ [x] <+: wh := by
  obtain ⟨r, rfl⟩ := h
  cases r with
  | nil => simp at hl
  | cons y r =>
    simp at hx
    subst hx
    exact ⟨r, by simp⟩
theorem rf_ok (q : List Pc) (f : Bool) (left turn : Int) (hok : okL q) (hl2 : q.length ≤ 100) (Ds : List Nat) (w0 : World) (wh : List (Int × Int)) (hwh : wh = if mayQ 0 q = true then pairs q else []) (a : Act) (w : World)
    (k : GD Ds w0 (stR left q f wh turn 0) a w) (Q : Exit → Act → World → Prop)
    (hQ : ∀ ex m D a' w', (ex = .normal ∧ m = wh.length ∨ ex = .exit 6 ∧ turn = 0) → GD (D :: Ds) w0 (stR left q f wh turn m) a' w' → Q ex a' w') : rfC.wpIn Fence.wide 5 Try.prog Q a w := by
  obtain ⟨ρ, O, k, hnd, hD⟩ := k
  have hlen : (hpC left q f wh turn).length = niC wh := niC_len left q f wh turn
  have hrow : (hpC left q f wh turn ++ [rowN 0])[niC wh]? = some (rowN 0) := by rw [← hlen]; simp
  have hrow2 : (hpC left q f wh turn ++ [rowN 0])[2]? = some ⟨1, 0, true, [[.data false 3 (pcs q) f]]⟩ := by cases wh <;> rfl
  obtain ⟨x11, t11, r11⟩ := k.rel.env 11 _ rfl
  obtain ⟨pn, y11, hn, on, rfl, c11, v11, _⟩ := box_at k.heap r11 hrow
  obtain ⟨x65, t65, r65⟩ := k.rel.env 65 _ rfl
  obtain ⟨xs, ys, rfl, hxl, hyl, _, hcap⟩ := rv_fn r65
  obtain rfl : xs = [] := List.eq_nil_of_length_eq_zero hxl.symm
  obtain ⟨y, rfl⟩ : ∃ y, ys = [y] := by
    cases ys with
    | nil => simp at hyl
    | cons y ys => cases ys with
      | nil => exact ⟨y, rfl⟩
      | cons z ys => simp at hyl
  obtain ⟨p2, z, h2, o2, rfl, c2, v2, _⟩ := box_at k.heap (hcap 0 _ _ rfl rfl) hrow2
  have hz : RepS w O (.data false 3 (pcs q) f) z := by
    have e : (fun b => False ∨ O b) = O := by funext b; simp
    cases v2 with
    | s h => rw [e] at h; exact h
  obtain ⟨aq, cap, tx, tc, rfl, hQA, hXb, hXt⟩ := data_q q hz
  have hni : (2 : Nat) ≠ niC wh := by cases wh <;> simp [niC]
  have h2n : p2.b ≠ pn.b := fun e => hni (k.heap.inj _ _ _ _ _ _ h2 hn e)
  have hlt : pn.b < w.heap.size := k.heap.bd _ (.inr on)
  have hlt2 : p2.b < w.heap.size := k.heap.bd _ (.inr o2)
  have Rn : RowRep (fun _ => none) w (fun _ => False) (fun c => c = pn.b) (rowN 0) pn := by
    obtain ⟨r, e1, _, hR⟩ := k.heap.row _ _ _ hn
    rw [hrow] at e1
    cases e1
    exact rowOne (.inl ⟨_, _, rfl⟩) (show RowRep ρ w (fun _ => False) O (rowN 0) pn from hR) rfl
  have hmay : ∀ W, Below w.heap.size w W → Calls Try.prog 20 #[.slice aq q.length cap] W fun e W' => e = .returned (.bool (mayQ 0 q)) ∧ Below W.heap.size W W' := fun W hW =>
    may_calls (S := O) (bo := false) (f := f) q (by omega) (fun x hx => by have := hok.2 x hx; omega) _ W (fun b hb => Nat.lt_of_lt_of_le (k.heap.bd b (.inr hb)) hW.size)
      (RepV.s (by
        have e : (fun b => O b ∨ False) = O := by funext b; simp
        rw [e]
        have e2 : (fun b => False ∨ O b) = O := by funext b; simp
        have := RepS.advX (S := fun _ => False) (O := O) (O' := O) (w' := W) (by rw [e2]; exact hz) ⟨hW.os, hW.tape, hW.output, hW.size, fun b hb _ => hW.block b hb, fun b h => .inl h⟩
        rw [e2] at this
        exact this))
  have hst := bytes_tells (5 - 1) (by omega) aq q.length cap _ _ tx tc _ w w hQA (by omega) (fun e he => by
    rw [List.getD_eq_getElem?_getD, List.getElem?_eq_getElem he]
    have := hok.2 _ (List.getElem_mem he)
    simp only [Option.getD_some]
    omega) (mayQ 0 q) hmay p2.b p2.base pn.b (Below.refl _ _) (fun b off e hp hb => hXb b off e hp (by rw [hb]; exact on)) (fun e he tb toff ht hp hb => hXt e he tb toff ht hp (by rw [hb]; exact on)) hlt h2n hlt2 c2
  have ep : allB (fun e => (q.getD e (0, 0, [], false)).1) (fun e => (q.getD e (0, 0, [], false)).2.2.1) q.length = pairs q := by rw [allB_pairs q q.length (Nat.le_refl _), List.take_length]
  rw [ep] at hst
  have eN : (if mayQ 0 q = true then (pairs q).length else 0) = wh.length := by rw [hwh]; split <;> rfl
  rw [eN, ← hwh] at hst
  have fin : ∀ (D : Nat) (pre : List (Int × Int)) (W : World), w.heap.size ≤ D → RI w pn wh pre W → W.heap[D]? = some (.deferred (some [])) → GD (D :: Ds) w0 (stR left q f wh turn pre.length) { a with defers := { target := .collected D, args := #[] } :: a.defers } W := by
    intro D pre W hDw ⟨_, A, R⟩ hDh
    have A2 : AdvW w O W O := ⟨A.os, A.tape, A.output, A.size, fun b hb hO => A.same b hb (fun e => hO (by rw [e]; exact on)), fun b h => h, fun b h => .inl h⟩
    refine ⟨ρ, O, ⟨k.adv.trans A2.x, fun id hid => absurd hid (Nat.not_lt_zero _), fun id hid => absurd hid (Nat.not_lt_zero _), k.heap.step (.refl ρ) A2 (fun b hb => Nat.lt_of_lt_of_le (k.heap.bd b (.inr hb)) A.size) (fun id g pl hid => ?_) k.heap.inj, ⟨(k.rel.adv (.refl ρ) A2.x).env, (k.rel.adv (.refl ρ) A2.x).glob⟩, k.size, ⟨?_, k.def0.2⟩, Nat.zero_le _⟩, List.nodup_cons.2 ⟨fun h => ?_, hnd⟩, fun E hE => ?_⟩
    · by_cases hi : id = niC wh
      · subst hi
        rw [hn] at hid
        cases hid
        exact .inr ⟨rowN pre.length, by rw [← hlen]; simp, rfl, rowOne (.inl ⟨_, _, rfl⟩) R on⟩
      · refine .inl ⟨hid, ?_, fun p hp => ?_⟩
        · by_cases hl : id < niC wh
          · rw [List.getElem?_append_left (by rw [hlen]; exact hl), List.getElem?_append_left (by rw [hlen]; exact hl)]
          · rw [List.getElem?_eq_none (by simp [hlen]; omega), List.getElem?_eq_none (by simp [hlen]; omega)]
        · subst hp
          obtain ⟨r, _, _, hR⟩ := k.heap.row _ _ _ hid
          exact A.same _ (RowRep.lt (show RowRep ρ w (fun _ => False) O r p from hR)) (fun e => hi (k.heap.inj _ _ _ _ _ _ hid hn e))
    · show _ = colD (D :: Ds)
      rw [k.def0.1]; rfl
    · have := hD D h
      have h1 := (Array.getElem?_eq_some_iff.1 this.1).1
      omega
    · rcases List.mem_cons.1 hE with rfl | hE
      · exact ⟨hDh, fun h => by have := k.heap.bd _ (.inr h); omega, Nat.le_trans k.adv.size hDw⟩
      · obtain ⟨e1, e2, e3⟩ := hD E hE
        exact ⟨(A2.same E (Array.getElem?_eq_some_iff.1 e1).1 e2).trans e1, e2, e3⟩
  rw [rfC_eq]
  refine wpIn_rangeFunc_ownG rfl (by omega) (gf := 59) (lb := #[.pointer (some ⟨p2.b, p2.base, none⟩)]) (by simp only [Act.eval]; rw [Array.getD_eq_getD_getElem?, t65]; rfl) trivial (enters_of Try.func59 (by kernel_rfl) rfl)
    hst KeepC.trans (fun W l o o' _ h hc _ => KeepC.putObj _ W l o o' h hc) (Below.refl _ _) (fun _ => rfl)
    (RI w pn wh) (fun c pre W => (c = .exit 6 ∧ turn = 0 ∧ RI w pn wh pre W) ∨ (c = .ret ∧ ¬ pre <+: wh)) (RI.own hlt)
    (fun c s A B row hs hg hr => hs.imp (fun h => ⟨h.1, h.2.1, RI.own hlt s A B row h.2.2 hg hr⟩) id) ⟨List.nil_prefix, AdvX.refl w _, Rn⟩
    (fun x => { tmps := (((a.tmps.setIfInBounds 66 (.int .i64 x.1)).setIfInBounds 67 (.int .u8 x.2)).setIfInBounds 12 (.int .i64 x.1)).setIfInBounds 13 (.int .u8 x.2), defers := [] }) ?assign ?body ?done ?stop
  case assign =>
    intro l x W K hK
    have hz2 : (#[66, 67] : Array Tmp).zip #[Value.int .i64 x.1, Value.int .u8 x.2] = #[(66, Value.int .i64 x.1), (67, Value.int .u8 x.2)] := by simp [List.zip_toArray]
    rw [hz2]
    simp only [List.foldl_toArray', List.foldl_cons, List.foldl_nil]
    have hsz := k.def0.2
    exact asg_hand l _ _ _ _ W K (by rw [Array.getElem?_setIfInBounds_ne (by decide), Array.getElem?_setIfInBounds_self_of_lt (by simp [hsz])]) (by rw [Array.getElem?_setIfInBounds_self_of_lt (by simp [hsz])]) (by simp [hsz]) hK
  case body =>
    rintro l pre x W ⟨hpre, A, R⟩ hl
    have hne : wh ≠ [] := fun e => by rw [e] at hl; simp at hl
    obtain ⟨Rd, pr, hr1, t4, hrn, hfar⟩ := rd_at hne k.heap k.rel k.def0.2 hn t11
    have hw100 : wh.length ≤ 100000 := by
      rw [hwh]
      split
      · rw [← ep, sizeQ_allB q q.length (Nat.le_refl _), List.take_length]
        have := sizeQ_le q hok.2
        omega
      · simp
    have he : (wh.map Prod.snd).length = (wh.map Prod.fst).length := by simp
    have hnl : pre.length < (wh.map Prod.fst).length := by simpa using hl
    by_cases hx : pre ++ [x] <+: wh
    · obtain ⟨h1, hx1⟩ := pre_get hx
      have e1 : (wh.map Prod.fst)[pre.length] = x.1 := by rw [List.getElem_map, hx1]
      have e2 : (wh.map Prod.snd)[pre.length]'(by omega) = x.2 := by rw [List.getElem_map, hx1]
      have R1 : RowRep (fun id => if id = 0 then some (0, some pn) else none) W (fun _ => False) (fun c => c = pn.b) ⟨1, 0, true, [[.int .i64 (pre.length : Nat)]]⟩ pn := rowOne (.inl ⟨_, _, rfl⟩) R rfl
      have g := rd_go Rd A pre.length hnl (by simpa using hw100) he R1 l (5 - 1 - 1) (ownPostG w.heap.size (KeepC pn.b) (RI w pn wh) (fun c pre W => (c = .exit 6 ∧ turn = 0 ∧ RI w pn wh pre W) ∨ (c = .ret ∧ ¬ pre <+: wh)) (pre ++ [x]) W) fun ex env a' W' hex g => ?_
      · rw [e1, e2] at g
        exact g
      · obtain ⟨ρ', O', g⟩ := g
        have A2 := g.adv
        have hk : KeepsFrom w.heap.size W W' := ⟨A2.size, fun j o hj ho _ => (A2.same j (Array.getElem?_eq_some_iff.1 ho).1 (fun e => by omega)).trans ho⟩
        have hri : RI w pn wh (pre ++ [x]) W' := by
          refine ⟨hx, ⟨A2.os.trans A.os, A2.tape.trans A.tape, A2.output.trans A.output, Nat.le_trans A.size A2.size, fun b hb hO => (A2.same b (Nat.lt_of_lt_of_le hb A.size) hO).trans (A.same b hb hO), fun b h => .inl h⟩, ?_⟩
          obtain ⟨g', pl', q1, q2, q3⟩ := g.ext 0 (by omega) 0 (some pn) rfl
          obtain ⟨r, q4, q5, q6⟩ := g.heap.row _ _ _ q1
          cases q4
          simp only at q5
          subst q5
          obtain rfl := q3 rfl
          have := rowOne (ρ' := fun _ => none) (S' := fun _ => False) (O' := fun c => c = pn.b) (g' := 0) (.inl ⟨_, _, rfl⟩) (show RowRep ρ' W' (fun _ => False) O' _ pn from q6) rfl
          rw [List.length_append, List.length_singleton]
          exact this
        rcases hex with rfl | ⟨rfl, h0⟩
        · exact ⟨hk, ⟨A2.os, A2.tape, A2.output, A2.size, fun j o hj ho _ => (A2.same j (Array.getElem?_eq_some_iff.1 ho).1 hj).trans ho⟩, hri⟩
        · exact ⟨hk, .inl ⟨rfl, h0, hri⟩⟩
    · have R1 : RowRep (fun id => if id = 0 then some (0, some pn) else if id = 1 then some (0, some pr) else none) W (fun _ => False) (fun c => c = pn.b ∨ c = pr.b) ⟨1, 0, true, [[.int .i64 (pre.length : Nat)]]⟩ pn := rowOne (.inl ⟨_, _, rfl⟩) R (.inl rfl)
      have hlr : pr.b < w.heap.size := by
        obtain ⟨r, _, _, hR⟩ := k.heap.row _ _ _ hr1
        exact RowRep.lt (show RowRep ρ w (fun _ => False) O r pr from hR)
      have R2 : RowRep (fun id => if id = 0 then some (0, some pn) else if id = 1 then some (0, some pr) else none) W (fun _ => False) (fun c => c = pn.b ∨ c = pr.b) ⟨1, 0, true, [[.bool false]]⟩ pr := by
        obtain ⟨r, q1, q2, q3⟩ := k.heap.row _ _ _ hr1
        have q1' : (hpC left q f wh turn ++ [rowN 0])[1]? = some ⟨1, 0, true, [[.bool false]]⟩ := by cases wh <;> rfl
        rw [q1'] at q1
        cases q1
        have q4 := rowOne (ρ' := fun _ => none) (S' := fun _ => False) (O' := fun c => c = pr.b) (g' := 0) (.inr ⟨_, rfl⟩) (show RowRep ρ w (fun _ => False) O _ pr from q3) rfl
        obtain ⟨arr, ty, lo, hi, b1, b2, b3, b4⟩ := q4.block
        refine rowOne (ρ := fun _ => none) (S := fun _ => False) (O := fun c => c = pr.b) (g := 0) (.inr ⟨_, rfl⟩) ⟨q4.k, q4.lim, rfl, q4.len, arr, ty, lo, hi, (A.same _ hlr hrn).trans b1, b2, b3, fun e j g c hg hc => ?_⟩ (.inr rfl)
        obtain ⟨y, s1, s2, s3, s4⟩ := b4 e j g c hg hc
        have e0 : c = .bool false := by
          cases e with
          | succ e => simp at hg
          | zero =>
            simp at hg
            subst hg
            cases j with
            | succ j => simp at hc
            | zero => simpa using hc.symm
        subst e0
        obtain rfl := rv_bool s3
        exact ⟨_, s1, s2, .s (.bool _), fun _ => .bool _⟩
      refine rd_bad Rd A pre.length x.1 x.2 hrn t4 hfar (by simpa using hw100) he (fun h hh => hx (pre_add hpre hl ?_)) R1 R2 l (5 - 1 - 1) _ fun st a' W' g => ?_
      · have h1 := hh.1
        have h2 := hh.2
        rw [List.getElem_map] at h1 h2
        exact Prod.ext h1.symm h2.symm
      · obtain ⟨ρ', O', g⟩ := g
        have A2 := g.adv
        exact ⟨⟨A2.size, fun j o hj ho _ => (A2.same j (Array.getElem?_eq_some_iff.1 ho).1 (fun e => by rcases e with e | e <;> omega)).trans ho⟩, .inr ⟨rfl, hx⟩⟩
  case done =>
    intro D xs W hDw hxs hri hDh
    refine hQ .normal _ D _ _ (.inl ⟨rfl, ?_⟩) (fin D xs W hDw hri hDh)
    rw [hxs]
  case stop =>
    rintro D c pre W hDw hSp (⟨rfl, h0, hri⟩ | ⟨rfl, hno⟩) hDh
    · exact wpIn_exit (hQ (.exit 6) _ D _ _ (.inr ⟨rfl, h0⟩) (fin D pre W hDw hri hDh))
    · exact absurd hSp hno
end Go.Proofs.Ytfnonledcniojaa
