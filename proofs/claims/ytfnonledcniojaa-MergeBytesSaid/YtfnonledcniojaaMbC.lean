/- MergeBytes: the frame with collected deferrals, the queue's cells, the range over the queue's bytes. Conditions: as the statements say. -/
import Derived.Test.YtfnonledcniojaaMbB
set_option linter.unusedVariables false
set_option linter.unusedSimpArgs false
set_option linter.unusedSectionVars false
namespace Go.Proofs.Ytfnonledcniojaa
open Go Go.RowKit Go.Shelf
abbrev colD (Ds : List Nat) : List Deferred := Ds.map fun D => { target := .collected D, args := #[] }
/-- The frame and the world, the deferrals collected so far being empty. -/
def GD (Ds : List Nat) (w0 : World) (st : ASt) (a : Act) (w : World) : Prop :=
  ∃ ρ O, Good (colD Ds, 106) (fun _ => none) (fun _ => none) w0 (fun _ => False) (fun _ => False) 0 106 st.env st.h a w ρ O ∧ Ds.Nodup ∧ ∀ D ∈ Ds, w.heap[D]? = some (.deferred (some [])) ∧ ¬ O D ∧ w0.heap.size ≤ D
theorem GD.part {Ds : List Nat} {w0 w : World} {c : Code} {ac : ACode} {st : ASt} {r : AEx × ASt} {Q : Exit → Act → World → Prop} {a : Act}
    (hr : aE (fun _ => none) FT 0 ac st = some r) (hc : chkCode Try.prog 106 c ac = true) (k : GD Ds w0 st a w) (hQ : ∀ a' w', GD Ds w0 r.2 a' w' → Q (exitOf r.1) a' w') : c.wp Try.prog Q a w := by
  obtain ⟨ρ, O, k, hnd, hD⟩ := k
  obtain ⟨n, hn⟩ := (aE_some _ FT).1 hr
  refine (code_ok mixFT (entFT _) n).1 106 0 c ac st r hn hc (colD Ds, 106) ρ w (fun _ => False) O Q a w ⟨ρ, O, AdvX.refl w O, fun id hid => absurd hid (Nat.not_lt_zero _), fun id hid => absurd hid (Nat.not_lt_zero _), k.heap, k.rel, k.size, k.def0, Nat.zero_le _⟩ fun a' w' ⟨ρ', O', k'⟩ => hQ a' w' ⟨ρ', O', ⟨k.adv.trans k'.adv, fun id hid => absurd hid (Nat.not_lt_zero _), fun id hid => absurd hid (Nat.not_lt_zero _), k'.heap, k'.rel, k'.size, k'.def0, Nat.zero_le _⟩, hnd, fun D hD' => ?_⟩
  obtain ⟨h1, h2, h3⟩ := hD D hD'
  have hlt := (Array.getElem?_eq_some_iff.1 h1).1
  exact ⟨(k'.adv.same D hlt h2).trans h1, fun h => (k'.adv.new D h).elim h2 (fun h => by omega), h3⟩
theorem GD.agc {Ds : List Nat} {w0 w : World} {a : Act} {live : List Nat} {st st' : ASt} (k : GD Ds w0 st a w) (hg : agc 0 live st = some st') : GD Ds w0 st' a w := by
  obtain ⟨ρ, O, k, h⟩ := k
  obtain ⟨ρ2, h1, h2, h3, h4⟩ := agc_ok k.heap k.rel k.bas hg
  exact ⟨ρ2, O, ⟨k.adv, fun id hid => absurd hid (Nat.not_lt_zero _), fun id hid => absurd hid (Nat.not_lt_zero _), h1, h2, k.size, k.def0, h4⟩, h⟩
/-- A row of one number or truth, told at other rows. -/
theorem rowOne {ρ ρ' : Rho} {w : World} {S O S' O' : Nat → Prop} {g g' : Nat} {p : Pl} {v : AV} (hv : (∃ k n, v = .int k n) ∨ ∃ b, v = .bool b) (R : RowRep ρ w S O ⟨1, g, true, [[v]]⟩ p) (hO : O' p.b) : RowRep ρ' w S' O' ⟨1, g', true, [[v]]⟩ p := by
  obtain ⟨arr, ty, lo, hi, b1, b2, b3, b4⟩ := R.block
  refine ⟨R.k, R.lim, hO, R.len, arr, ty, lo, hi, b1, b2, b3, fun e j g c hg hc => ?_⟩
  obtain ⟨x, c1, c2, c3, c4⟩ := b4 e j g c hg hc
  have e0 : c = v := by
    cases e with
    | succ e => simp at hg
    | zero =>
      simp at hg
      subst hg
      cases j with
      | succ j => simp at hc
      | zero => simpa using hc.symm
  subst e0
  rcases hv with ⟨k, n, rfl⟩ | ⟨b, rfl⟩
  · have hx : x = .int k n := rv_int c3
    subst hx
    exact ⟨_, c1, c2, .s (.int _ _), fun _ => .int _ _⟩
  · have hx : x = .bool b := rv_bool c3
    subst hx
    exact ⟨_, c1, c2, .s (.bool _), fun _ => .bool _⟩
/-- A queue as data: where its cells lie, none of them in X. -/
theorem data_q {w : World} {X : Nat → Prop} (q : List Pc) {f : Bool} {z : Value} (hz : RepS w X (.data false 3 (pcs q) f) z) : ∃ a cap tx tc, z = .slice a q.length cap ∧
    QAt w a q.length (fun e => (q.getD e (0, 0, [], false)).1) (fun e => (q.getD e (0, 0, [], false)).2.1) tx tc (fun e => (q.getD e (0, 0, [], false)).2.2.1) ∧
    (∀ b off, a = some ⟨b, off, none⟩ → 0 < q.length → ¬ X b) ∧ ∀ e, e < q.length → ∀ tb toff, tx e = some ⟨tb, toff, none⟩ → 0 < (q.getD e (0, 0, [], false)).2.2.1.length → ¬ X tb := by
  have hln := pcs_len q
  obtain ⟨a, cap, rfl, h⟩ : ∃ a cap, z = .slice a q.length cap ∧ (q = [] ∨ ∃ (b off : Nat) (val : Nat → Nat → Value), a = some ⟨b, off, none⟩ ∧ ¬ X b ∧ b < w.heap.size ∧ (∀ (e j : Nat), e < q.length → j < 3 → w.cell? ⟨b, off + (e * 3 + j), none⟩ = some (val e j) ∧ (val e j).oneCell' = true) ∧
      (∀ (e j : Nat) g c, (pcs q)[e]? = some g → g[j]? = some c → RepS w X c (val e j))) := by
    generalize he : pcs q = es at hz hln
    cases hz with
    | data0 _ _ a cap h =>
      have : q = [] := List.eq_nil_of_length_eq_zero (by simpa using hln.symm)
      subst this
      exact ⟨a, cap, rfl, .inl rfl⟩
    | data _ _ _ b off cap val h1 h2 h3 h4 h5 h6 h7 =>
      subst he
      exact ⟨_, cap, by rw [hln], .inr ⟨b, off, val, rfl, h4, h5, by rw [← hln]; exact h6, h7⟩⟩
  rcases h with h0 | ⟨b, off, val, rfl, hX, hb, hcell, hrep⟩
  · subst h0
    exact ⟨a, cap, fun _ => none, fun _ => 0, rfl, .inl rfl, fun _ _ _ h => by simp at h, fun e h => by simp at h⟩
  · have at_ : ∀ e, e < q.length → ∃ x, q.getD e (0, 0, [], false) = x ∧ (pcs q)[e]? = some [.int .i64 x.1, .int .i64 x.2.1, .data false 1 (byt x.2.2.1) x.2.2.2] := fun e he => ⟨_, rfl, by rw [pcs_at he, List.getD_eq_getElem?_getD, List.getElem?_eq_getElem he]; rfl⟩
    refine ⟨_, cap, fun e => match val e 2 with | .slice a _ _ => a | _ => none, fun e => match val e 2 with | .slice _ _ c => c | _ => 0, rfl, .inr ⟨b, off, rfl, hb, ?_, ?_, ?_, ?_⟩, fun b' off' e _ => by cases e; exact hX, ?_⟩
    · intro e he
      obtain ⟨x, hx, hg⟩ := at_ e he
      have c := (hcell e 0 he (by omega)).1
      have r := hrep e 0 _ _ hg rfl
      rw [hx]
      generalize val e 0 = z at c r
      cases r
      exact c
    · intro e he
      obtain ⟨x, hx, hg⟩ := at_ e he
      have c := (hcell e 1 he (by omega)).1
      have r := hrep e 1 _ _ hg rfl
      rw [hx]
      generalize val e 1 = z at c r
      cases r
      exact c
    · intro e he
      obtain ⟨x, hx, hg⟩ := at_ e he
      have c := (hcell e 2 he (by omega)).1
      have r := hrep e 2 _ _ hg rfl
      simp only [hx]
      generalize val e 2 = z at c r ⊢
      obtain ⟨a', cap', rfl, _⟩ := rs_slice r
      rw [byt_len] at c
      exact c
    · intro e he j hj
      obtain ⟨x, hx, hg⟩ := at_ e he
      have r := hrep e 2 _ _ hg rfl
      simp only [hx] at hj ⊢
      generalize val e 2 = z at r ⊢
      obtain ⟨a', cap', rfl, r4⟩ := rs_slice r
      rcases r4 with r4 | ⟨tb, toff, tv, rfl, htb, hc, hrp⟩
      · have := congrArg List.length r4
        rw [byt_len] at this
        simp only [List.length_nil] at this
        omega
      · refine ⟨tb, toff, rfl, ?_, htb⟩
        have c := (hc j 0 (by rw [byt_len]; exact hj) (by omega)).1
        have hg2 : (byt x.2.2.1)[j]? = some [.int .u8 x.2.2.1[j]] := by simp [byt, hj]
        have r := hrp j 0 _ _ hg2 rfl
        rw [List.getD_eq_getElem?_getD, List.getElem?_eq_getElem hj]
        rw [Nat.mul_one, Nat.add_zero] at c
        generalize tv j 0 = z at c r
        cases r
        exact c
    · intro e he tb toff ht hpos
      obtain ⟨x, hx, hg⟩ := at_ e he
      have r := hrep e 2 _ _ hg rfl
      rw [hx] at hpos
      simp only at ht
      generalize val e 2 = z at r ht
      have hpos' : 0 < (byt x.2.2.1).length := by rw [byt_len]; exact hpos
      generalize byt x.2.2.1 = es at r hpos'
      cases r with
      | data0 => simp at hpos'
      | data _ _ _ b2 off2 cap2 val2 h1 h2 h3 h4 h5 h6 h7 => cases ht; exact h4
theorem rfC_eq : rfC = .rangeFunc (.tmp 65) #[66, 67] asgC rfBody := by kernel_rfl
/-- What the range's invariant bears: what was told so far, and n's box. -/
def RI (w : World) (pn : Pl) (wh : List (Int × Int)) (pre : List (Int × Int)) (W : World) : Prop :=
  pre <+: wh ∧ AdvX w (fun c => c = pn.b) W (fun c => c = pn.b) ∧ RowRep (fun _ => none) W (fun _ => False) (fun c => c = pn.b) ⟨1, 0, true, [[.int .i64 (pre.length : Nat)]]⟩ pn
theorem RI.own {w : World} {pn : Pl} {wh : List (Int × Int)} (hl : pn.b < w.heap.size) : OwnFrom w.heap.size (RI w pn wh) := by
  intro pre W W' row ⟨h1, A, R⟩ hg hr
  have hlW := Nat.lt_of_lt_of_le hl A.size
  have ne : ∀ k, k < w.heap.size → some k ≠ row := fun k hk e => by have := (hr k e.symm).1; omega
  have R' : RowRep (fun _ => none) W' (fun _ => False) (fun c => c = pn.b) ⟨1, 0, true, [[.int .i64 (pre.length : Nat)]]⟩ pn := by
    obtain ⟨arr, ty, lo, hi, b1, b2, b3, b4⟩ := R.block
    refine ⟨R.k, R.lim, rfl, R.len, arr, ty, lo, hi, (hg.block _ hlW (ne _ hl)).trans b1, b2, b3, fun e j g c hg hc => ?_⟩
    obtain ⟨x, c1, c2, c3, c4⟩ := b4 e j g c hg hc
    have e0 : c = .int .i64 (pre.length : Nat) := by
      cases e with
      | succ e => simp at hg
      | zero =>
        simp at hg
        subst hg
        cases j with
        | succ j => simp at hc
        | zero => simpa using hc.symm
    subst e0
    have hx : x = .int .i64 (pre.length : Nat) := rv_int c3
    subst hx
    exact ⟨_, c1, c2, .s (.int _ _), fun _ => .int _ _⟩
  exact ⟨h1, ⟨hg.os.trans A.os, hg.tape.trans A.tape, hg.output.trans A.output, Nat.le_trans A.size hg.size, fun b hb hO => by
    rw [← A.same b hb hO]; exact hg.block b (Nat.lt_of_lt_of_le hb A.size) (ne b hb), fun b h => .inl h⟩, R'⟩
end Go.Proofs.Ytfnonledcniojaa
