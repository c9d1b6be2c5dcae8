/- MergeEdits: where the texts lie; the law's call. Conditions: as each statement says. -/
import Derived.Test.YtfnonledcniojaaMe3
import Derived.Test.YtfnonledcniojaaCk
import Derived.Test.YtfnonledcniojaaMb4
set_option linter.unusedVariables false
set_option linter.unusedSimpArgs false
set_option linter.unusedSectionVars false
namespace Go.Proofs.Ytfnonledcniojaa
open Go Go.RowKit
/-- Pieces that lie apart, in a row of the call's own: their texts may be written. -/
theorem tx_of {B : Nat} {w0 w : World} {st : ASt} {a : Act} {id g : Nat} {L : List Pc} (k : Wet (frI B) (fun b => b < B) w0 st a w) (hl : look st.env 18 = some (.own id g 0 L.length L.length)) (hr : st.h[id]? = some ⟨3, g, true, pcs L⟩) :
    ∃ ad b off cap tx tc, a.tmps[18]? = some (.slice ad L.length cap) ∧ (0 < L.length → ad = some ⟨b, off, none⟩) ∧ TxAt B w b off L.length tx tc (fun e => (L.getD e (0, 0, [], false)).2.2.1.length) := by
  letI : FrB := frI B
  obtain ⟨ρ, O, A, H, R⟩ := k
  obtain ⟨x, t18, r18⟩ := R.env 18 _ hl
  obtain ⟨g', pl, ad, cap, rfl, hρ, hle, hlc, _, has, hpl⟩ := rv_own r18
  obtain ⟨hg', his⟩ := H.at hρ hr
  by_cases h0 : L.length = 0
  · refine ⟨ad, 0, 0, cap, fun _ => none, fun _ => 0, t18, fun h => by omega, ⟨fun e he => by omega, fun e he => by omega⟩⟩
  rcases hpl hg' with hc | ⟨p, rfl, rfl, hlim⟩
  · omega
  have R' : RowRep ρ w (fun b => b < B) O ⟨3, g, true, pcs L⟩ p := his
  obtain ⟨val, c1, c2⟩ := flat_cells R' rfl
  have hk : p.k = 3 := R'.k
  have hln := pcs_len L
  have at_ : ∀ e, e < L.length → ∃ y, L.getD e (0, 0, [], false) = y ∧ (pcs L)[e]? = some [.int .i64 y.1, .int .i64 y.2.1, .data false 1 (byt y.2.2.1) y.2.2.2] := fun e he => ⟨_, rfl, by rw [pcs_at he, List.getD_eq_getElem?_getD, List.getElem?_eq_getElem he]; rfl⟩
  have cell : ∀ e, e < L.length → ∃ ax cx, val e 2 = .slice ax (L.getD e (0, 0, [], false)).2.2.1.length cx ∧ ∀ j, j < (L.getD e (0, 0, [], false)).2.2.1.length → ∃ tb toff v, ax = some ⟨tb, toff, none⟩ ∧ B ≤ tb ∧ tb ≠ p.b ∧ w.cell? ⟨tb, toff + j, none⟩ = some (.int .u8 v) ∧ w.frozen? ⟨tb, toff + j, none⟩ = false := by
    intro e he
    obtain ⟨y, hy, hg⟩ := at_ e he
    have r := c2 e 2 _ _ hg rfl
    rw [hy]
    have hbl := byt_len y.2.2.1
    generalize val e 2 = z at r
    generalize hes : byt y.2.2.1 = es at r hbl
    cases r with
    | data0 _ _ a c h =>
      simp only [List.length_nil] at hbl
      exact ⟨a, c, by rw [← hbl], fun j hj => by omega⟩
    | data _ _ _ b off c tv q1 q2 q3 q4 q5 q6 q7 q8 =>
      refine ⟨_, c, by rw [hbl], fun j hj => ?_⟩
      subst hes
      obtain ⟨s1, s2⟩ := q6 j 0 (by omega) (by omega)
      have s3 := q7 j 0 _ _ (show (byt y.2.2.1)[j]? = some [.int .u8 y.2.2.1[j]] by simp [byt, hj]) rfl
      rw [Nat.mul_one, Nat.add_zero] at s1
      have hB : B ≤ b := by
        rcases Nat.lt_or_ge b B with h | h
        · exact absurd (Or.inl h) q4
        · exact h
      have hne : b ≠ p.b := fun e => q4 (.inr (by rw [e]; exact R'.own))
      refine ⟨b, off, y.2.2.1[j], rfl, hB, hne, ?_, ?_⟩
      · rw [s1]
        generalize tv j 0 = u at s3
        cases s3
        rfl
      · have ht := q8 hB
        simp only [World.frozen?]
        split
        · rename_i c2' el lo hi hb
          have hlt : off + j < c2'.size := by
            rw [cell_of_row w b _ c2' el _ hb] at s1
            exact (Array.getElem?_eq_some_iff.1 s1).1
          have := ht _ _ _ _ hb (off + j) hlt
          simp only [Bool.and_eq_false_iff, decide_eq_false_iff_not]
          by_cases h : lo ≤ off + j
          · exact .inr fun h2 => this ⟨h, h2⟩
          · exact .inl h
        · rfl
  refine ⟨_, p.b, p.base + 0 * p.k, cap, fun e => match val e 2 with | .slice a _ _ => a | _ => none, fun e => match val e 2 with | .slice _ _ c => c | _ => 0, t18, fun _ => rfl, ⟨fun e he => ?_, fun e he j hj => ?_⟩⟩
  · obtain ⟨ax, cx, e1, _⟩ := cell e he
    have := (c1 e 2 (show e < (pcs L).length by rw [hln]; exact he) (show (2 : Nat) < 3 by omega)).1
    rw [e1] at this
    simp only [e1]
    rw [Nat.zero_mul, Nat.add_zero, Nat.add_assoc]
    exact this
  · obtain ⟨ax, cx, e1, h⟩ := cell e he
    simp only [e1]
    exact h j hj
theorem mayNo (q : List Pc) (t : Pc) (n m : Int) (h : mayQ 0 q = false) : pushM q t = ([], false) ∧ popM q n = ([], []) ∧ dropM q m = [] := by
  unfold pushM popM dropM
  simp [h]
def cs1 : Code → Code | .seq a _ => a | c => c
def cs2 : Code → Code | .seq _ b => b | c => c
noncomputable def meBody : Code := (Try.f3.body).getD .skip
abbrev S' (B : Nat) : Nat → Prop := fun b => b < B
set_option maxRecDepth 100000 in
set_option maxHeartbeats 4000000 in
theorem me_calls (q : List Pc) (f : Bool) (t : Pc) (n m : Int) (hn : n ≤ 9223372036854775807) (w : World) (x0 x1 x2 x3 : Value)
    (hargs : RepL (@RepV bs0 noR w noO noO) [.data false 3 (pcs q) f, .agg (pcell t), .int .i64 n, .int .i64 m] [x0, x1, x2, x3]) :
    Calls Try.prog 3 #[x0, x1, x2, x3] w fun e w' => e = .returned (.bool true) ∧ Below w.heap.size w w' := by
  refine calls_of_wp Try.func3 rfl ?_
  have hn' : Try.f3.ntmps = 182 := Try.ntmps3
  rw [hn']
  have hz : (#[x0, x1, x2, x3] ++ Array.replicate (182 - #[x0, x1, x2, x3].size) undef : Array Value).size = 182 := by simp
  have t0 : (#[x0, x1, x2, x3] ++ Array.replicate (182 - #[x0, x1, x2, x3].size) undef : Array Value)[0]? = some x0 := by simp [Array.getElem?_append]
  have t1 : (#[x0, x1, x2, x3] ++ Array.replicate (182 - #[x0, x1, x2, x3].size) undef : Array Value)[1]? = some x1 := by simp [Array.getElem?_append]
  have t2 : (#[x0, x1, x2, x3] ++ Array.replicate (182 - #[x0, x1, x2, x3].size) undef : Array Value)[2]? = some x2 := by simp [Array.getElem?_append]
  have t3 : (#[x0, x1, x2, x3] ++ Array.replicate (182 - #[x0, x1, x2, x3].size) undef : Array Value)[3]? = some x3 := by simp [Array.getElem?_append]
  generalize (#[x0, x1, x2, x3] ++ Array.replicate (182 - #[x0, x1, x2, x3].size) undef : Array Value) = tm at hz t0 t1 t2 t3
  have d : Dry bs0 noO [(0, .data false 3 (pcs q) f), (1, .agg (pcell t)), (2, .int .i64 n), (3, .int .i64 m)] { tmps := tm, defers := [] } w := by
    intro s v hs
    simp only [look] at hs
    split at hs
    · rename_i e; cases hs; subst e; exact ⟨x0, t0, hargs.2 0 _ _ rfl rfl⟩
    split at hs
    · rename_i e; cases hs; subst e; exact ⟨x1, t1, hargs.2 1 _ _ rfl rfl⟩
    split at hs
    · rename_i e; cases hs; subst e; exact ⟨x2, t2, hargs.2 2 _ _ rfl rfl⟩
    split at hs
    · rename_i e; cases hs; subst e; exact ⟨x3, t3, hargs.2 3 _ _ rfl rfl⟩
    · cases hs
  have hE : ∀ I : FrB, @EntOk I Try.prog (fun _ => none) FT := fun I => @entFT I _
  have S0 : ∀ (w : World) b, noO b → b < w.heap.size := fun w b h => h.elim
  have z : (({ tmps := tm, defers := [] } : Act).tmps.size = 182 ∧ ({ tmps := tm, defers := [] } : Act).defers = []) := ⟨hz, rfl⟩
  clear hargs t0 t1 t2 t3 hz
  generalize ({ tmps := tm, defers := [] } : Act) = a at d z
  have ret : ∀ (a' : Act) (w' : World) (I : FrB) (S : Nat → Prop) (w0 : World) (hh : List ARow), Wet I S w0 ⟨[(8, .bool true)], hh⟩ a' w' → a'.tmps.size = 182 ∧ a'.defers = [] → Below w.heap.size w w' → bodyPost Try.prog Try.f3 (fun e w' => e = .returned (.bool true) ∧ Below w.heap.size w w') .ret a' w' := by
    intro a' w' I S w0 hh k z' B
    obtain ⟨ρ, O, A, H, R⟩ := k
    obtain ⟨v, hv, hrv⟩ := @results_ok I _ _ _ _ _ _ _ Try.f3 [.slot 8] _ (.bool true) H R (by kernel_rfl) rfl
    obtain rfl := @rv_bool I _ _ _ _ _ _ hrv
    exact ⟨z'.2, _, hv, rfl, B⟩
  have bel : ∀ {u : World}, Bel w u → Below w.heap.size w u := fun A => ⟨A.os, A.tape, A.output, A.size, fun b hb => A.same b hb (fun h => h)⟩
  -- the box of the piece
  refine wp_seq ((d.wet (S0 w)).part mixFT (hE bs0) z (me_r0 _ q f t n m) (by kernel_rfl) fun a1 w1 k1 z1 p1 => ?_)
  obtain ⟨d1, b1⟩ := k1.dry (env' := [(0, .data false 3 (pcs q) f), (2, .int .i64 n), (3, .int .i64 m), (5, .dptr (pcell t))]) rfl
  refine wp_seq ((d1.wet (S0 w1)).part mixFT (hE bs0) z1 (me_r1 _ q f t n m) (by kernel_rfl) fun a2 w2 k2 z2 p2 => ?_)
  obtain ⟨d2, b2⟩ := k2.dry (env' := [(0, .data false 3 (pcs q) f), (2, .int .i64 n), (3, .int .i64 m), (5, .dptr (pcell t))] ++ [(22, .bool false)]) rfl
  have d2 : Dry bs0 noO [(0, .data false 3 (pcs q) f), (2, .int .i64 n), (3, .int .i64 m), (5, .dptr (pcell t))] a2 w2 := d2.keep [0, 2, 3, 5]
  cases hg : greatT q t with
  | true =>
    refine wp_seq ((d2.wet (S0 w2)).part mixFT (hE bs0) z2 (me_r2t _ q f t n m hg) (by kernel_rfl) fun a3 w3 k3 z3 p3 => ?_)
    obtain ⟨_, b3⟩ := k3.dry (env' := [(8, .bool true)]) rfl
    exact ret a3 w3 _ _ _ _ k3 z3 (bel ((b1.trans b2).trans b3))
  | false =>
    refine wp_seq ((d2.wet (S0 w2)).part mixFT (hE bs0) z2 (me_r2f _ q f t n m hg) (by kernel_rfl) fun a3 w3 k3 z3 p3 => ?_)
    obtain ⟨d3, b3⟩ := k3.dry (env' := [(0, .data false 3 (pcs q) f), (2, .int .i64 n), (3, .int .i64 m), (5, .dptr (pcell t))] ++ [(30, .bool false)]) rfl
    have hg1 : greatQ q = false := by unfold greatT at hg; simp at hg; exact hg.1
    have ht : t.2.2.1.length ≤ 1000 := by unfold greatT at hg; simp at hg; omega
    obtain ⟨hl, hok⟩ := great_ok hg1
    refine wp_seq ((d3.wet (S0 w3)).part mixFT (hE bs0) z3 (me_r3 _ q f t n m hok) (by kernel_rfl) fun a4 w4 k4 z4 p4 => ?_)
    obtain ⟨d4, b4⟩ := k4.dry (env' := [(0, .data false 3 (pcs q) f), (2, .int .i64 n), (3, .int .i64 m), (5, .dptr (pcell t))] ++ [(9, .data false 3 (pcs (cpQ q)) false)]) rfl
    have bel4 : Bel w w4 := ((b1.trans b2).trans b3).trans b4
    clear d d1 d2 d3 k1 k2 k3 k4
    obtain ⟨B, hB⟩ : ∃ B, B = w4.heap.size := ⟨_, rfl⟩
    have hJ : ∀ b, b < w4.heap.size → (frI B).fr b → bs0.fr b := fun b hb (h : B ≤ b) => by omega
    have hS : ∀ {u : World}, Bel w4 u → ∀ b, S' B b → b < u.heap.size := fun A b (hb : b < B) => Nat.lt_of_lt_of_le (by omega) A.size
    have dI : Dry (frI B) (S' B) (meI t n m (cpQ q)) a4 w4 := (d4.bor (J := frI B) (S := S' B) hJ rfl).keep [2, 3, 5, 9]
    have hc : okL (cpQ q) := okL_cp hok
    obtain ⟨A, ok, hP⟩ : ∃ A ok, pushM (cpQ q) t = (A, ok) := ⟨_, _, rfl⟩
    obtain ⟨B1, C1, hQ⟩ : ∃ B1 C1, popM (cpQ q) n = (B1, C1) := ⟨_, _, rfl⟩
    obtain ⟨D1, hD⟩ : ∃ D1, dropM (cpQ q) m = D1 := ⟨_, rfl⟩
    have r4 := me_r4 (fun _ => none) t n m (cpQ q) hc ht
    rw [hP] at r4
    have r5 := me_r5 (fun _ => none) t n m (cpQ q) A ok hc hn
    rw [hQ] at r5
    have r6 := me_r6 (fun _ => none) t n m (cpQ q) A B1 C1 ok hc
    rw [hD] at r6
    refine wp_seq ((dI.wet (hS (.refl _ _))).part mixFT (hE (frI B)) z4 r4 (by kernel_rfl) fun a5 w5 k5 z5 p5 => ?_)
    obtain ⟨d5, b5⟩ := k5.dry (env' := meI t n m (cpQ q) ++ [(10, .data false 3 (pcs A) false), (11, .bool ok)]) rfl
    refine wp_seq ((d5.wet (hS b5)).part mixFT (hE (frI B)) z5 r5 (by kernel_rfl) fun a6 w6 k6 z6 p6 => ?_)
    obtain ⟨d6, b6⟩ := k6.dry (env' := meI t n m (cpQ q) ++ [(10, .data false 3 (pcs A) false), (11, .bool ok), (12, .data false 3 (pcs B1) false), (13, .data false 3 (pcs C1) false)]) rfl
    have b56 := b5.trans b6
    refine wp_seq ((d6.wet (hS b56)).part mixFT (hE (frI B)) z6 r6 (by kernel_rfl) fun a7 w7 k7 z7 p7 => ?_)
    obtain ⟨d7, b7⟩ := k7.dry (env' := meI t n m (cpQ q) ++ [(10, .data false 3 (pcs A) false), (11, .bool ok), (12, .data false 3 (pcs B1) false), (13, .data false 3 (pcs C1) false), (14, .data false 3 (pcs D1) false)]) rfl
    have b47 := b56.trans b7
    have kp := kept_trans (kept_trans (kept_all p5 [0, 2, 3, 5, 9] (by kernel_rfl)) (kept_all p6 [0, 2, 3, 5, 9] (by kernel_rfl))) (kept_all p7 [0, 2, 3, 5, 9] (by kernel_rfl))
    have da : Dry bs0 noO [(0, .data false 3 (pcs q) f), (2, .int .i64 n), (3, .int .i64 m), (5, .dptr (pcell t)), (9, .data false 3 (pcs (cpQ q)) false)] a7 w7 := d4.on b47 kp rfl
    have dx : Dry (frI B) (S' B) [(10, .data false 3 (pcs A) false), (11, .bool ok), (12, .data false 3 (pcs B1) false), (13, .data false 3 (pcs C1) false), (14, .data false 3 (pcs D1) false)] a7 w7 := d7.keep [10, 11, 12, 13, 14]
    have d8 : Dry bs0 noO [(0, .data false 3 (pcs q) f), (2, .int .i64 n), (3, .int .i64 m), (5, .dptr (pcell t)), (9, .data false 3 (pcs (cpQ q)) false), (10, .data false 3 (pcs A) false), (11, .bool ok), (12, .data false 3 (pcs B1) false), (13, .data false 3 (pcs C1) false), (14, .data false 3 (pcs D1) false)] a7 w7 := da.app (dx.back (J := bs0) (fun b hb (h : False) => h.elim) rfl)
    have bel7 : Bel w w7 := bel4.trans b47
    have d4' := d4
    clear d4 dI d5 d6 d7 k5 k6 k7
    -- the end: all texts are written over
    have tail : ∀ (a8 : Act) (w8 : World), (∀ s ∈ [0, 9, 10, 12, 13, 14], a8.tmps[s]? = a7.tmps[s]?) → Bel w7 w8 → a8.tmps.size = 182 ∧ a8.defers = [] → A.length + B1.length + C1.length + D1.length ≤ 100000 → (∀ x ∈ A ++ B1 ++ (C1 ++ D1), x.2.2.1.length ≤ 100000) →
        (tailC 15 meBody).wp Try.prog (bodyPost Try.prog Try.f3 fun e w' => e = .returned (.bool true) ∧ Below w.heap.size w w') a8 w8 := by
      intro a8 w8 hk bl z8 hlen htx
      have e15 : tailC 15 meBody = .seq (cs1 (tailC 15 meBody)) (.seq meC16 (cs2 (cs2 (tailC 15 meBody)))) := by kernel_rfl
      rw [e15]
      have dy : Dry (frI B) (S' B) [(10, .data false 3 (pcs A) false), (12, .data false 3 (pcs B1) false), (13, .data false 3 (pcs C1) false), (14, .data false 3 (pcs D1) false)] a8 w8 := (dx.keep [10, 12, 13, 14]).on bl hk rfl
      obtain ⟨id, g, hh, r15, hrow⟩ := me_r15 (fun _ => none) A B1 C1 D1 hlen
      refine wp_seq ((dy.wet (hS (b47.trans bl))).part mixFT (hE (frI B)) z8 r15 (by kernel_rfl) fun a9 w9 k9 z9 p9 => ?_)
      obtain ⟨ad, b, off, cap, tx, tc, h18, had, T⟩ := tx_of k9 rfl hrow
      have b9 : Bel w8 w9 := by obtain ⟨ρ, O, A9, _⟩ := k9; exact .of A9
      have len9 : (A ++ B1 ++ (C1 ++ D1)).length ≤ 100000 := by simp only [List.length_append]; omega
      obtain ⟨t9, ds9⟩ := a9
      obtain ⟨hs9, rfl⟩ := z9
      refine wp_seq (loops_go (B := B) hs9 h18 had T len9 (fun e he => ?_) _ fun t' W hs' h0' h9' K => ?_)
      · rw [List.getD_eq_getElem?_getD, List.getElem?_eq_getElem he]
        exact htx _ (List.getElem_mem he)
      · have bW : Bel w4 W := ⟨K.os.trans ((b47.trans bl).trans b9).os, K.tape.trans ((b47.trans bl).trans b9).tape, K.output.trans ((b47.trans bl).trans b9).output, Nat.le_trans ((b47.trans bl).trans b9).size K.size, fun c hc hO => (K.same c (by omega)).trans (((b47.trans bl).trans b9).same c hc hO), fun _ h => h.elim⟩
        have bW7 : Bel w W := bel4.trans bW
        have kp9 := kept_all p9 [0, 9] (by kernel_rfl)
        have dz : Dry bs0 noO [(0, .data false 3 (pcs q) f), (9, .data false 3 (pcs (cpQ q)) false)] { tmps := t', defers := [] } W := by
          intro s v hs
          simp only [look] at hs
          split at hs
          · rename_i e; cases hs; subst e
            obtain ⟨x, e1, e2⟩ := d4' 0 _ rfl
            exact ⟨x, h0'.trans ((kp9 0 (by simp)).trans ((hk 0 (by simp)).trans ((kp 0 (by simp)).trans e1))), @RepV.advX bs0 _ _ _ _ _ _ _ _ _ e2 (.refl _) bW⟩
          split at hs
          · rename_i e; cases hs; subst e
            obtain ⟨x, e1, e2⟩ := d4' 9 _ rfl
            exact ⟨x, h9'.trans ((kp9 9 (by simp)).trans ((hk 9 (by simp)).trans ((kp 9 (by simp)).trans e1))), @RepV.advX bs0 _ _ _ _ _ _ _ _ _ e2 (.refl _) bW⟩
          · cases hs
        refine (dz.wet (S0 W)).part mixFT (hE bs0) ⟨hs', rfl⟩ (me_r17 _ q f hok) (by kernel_rfl) fun aE wE kE zE pE => ?_
        obtain ⟨_, bE⟩ := kE.dry (env' := [(8, .bool true)]) rfl
        exact ret aE wE _ _ _ _ kE zE (bel (bW7.trans bE))
    refine wp_seq ((d8.wet (S0 w7)).part mixFT (hE bs0) z7 (me_r7 _ q f t n m A B1 C1 D1 ok hok) (by kernel_rfl) fun a8 w8 k8 z8 p8 => ?_)
    obtain ⟨d9, b8⟩ := k8.dry (env' := [(0, .data false 3 (pcs q) f), (2, .int .i64 n), (3, .int .i64 m), (5, .dptr (pcell t)), (9, .data false 3 (pcs (cpQ q)) false), (10, .data false 3 (pcs A) false), (11, .bool ok), (12, .data false 3 (pcs B1) false), (13, .data false 3 (pcs C1) false), (14, .data false 3 (pcs D1) false), (58, .bool false)]) rfl
    have kq := kept_all p8 [0, 9, 10, 12, 13, 14] (by kernel_rfl)
    cases hm : mayQ 0 q with
    | false =>
      obtain ⟨m1, m2, m3⟩ := mayNo (cpQ q) t n m (by rw [may_core 0 (core_cp q)]; exact hm)
      rw [hP] at m1
      rw [hQ] at m2
      rw [hD] at m3
      cases m1
      cases m2
      cases m3
      refine wp_seq ((d9.wet (S0 w8)).part mixFT (hE bs0) z8 (me_r8f _ q f t n m hok hm) (by kernel_rfl) fun a9 w9 k9 z9 p9 => ?_)
      obtain ⟨_, b9⟩ := k9.dry (env' := [(8, .bool true)]) rfl
      exact ret a9 w9 _ _ _ _ k9 z9 (bel ((bel7.trans b8).trans b9))
    | true =>
      have hmc : mayQ 0 (cpQ q) = true := by rw [may_core 0 (core_cp q)]; exact hm
      have hPA : (if fitsB q t = true then coreQ A = coreQ (cpQ q ++ [t]) else coreQ A = coreQ (cpQ q)) ∧ ok = fitsB q t ∧ A.length ≤ 101 ∧ ∀ x ∈ A, x.2.2.1.length ≤ 1000 := by
        unfold pushM at hP
        rw [if_pos hmc, size_core (core_cp q)] at hP
        by_cases hf : pieceB t.1 t.2.1 t.2.2.1.length = true ∧ sizeQ q + t.2.2.1.length ≤ 64
        · rw [if_pos hf] at hP
          cases hP
          have e : fitsB q t = true := by unfold fitsB; simp [hf.1, hf.2]
          rw [e, if_pos rfl]
          refine ⟨?_, rfl, by simp [cpQ_len]; omega, fun x hx => ?_⟩
          · rw [core_app, core_app, core_cp]; rfl
          · rcases List.mem_append.1 hx with hx | hx
            · exact (okL_cp hc).2 x hx
            · simp at hx; subst hx; exact ht
        · rw [if_neg hf] at hP
          cases hP
          have e : fitsB q t = false := by
            unfold fitsB
            simp only [Bool.and_eq_false_iff, decide_eq_false_iff_not]
            by_cases hp : pieceB t.1 t.2.1 t.2.2.1.length = true
            · exact .inr fun h => hf ⟨hp, h⟩
            · exact .inl (by simpa using hp)
          rw [e, if_neg (by simp)]
          exact ⟨core_cp _, rfl, by rw [cpQ_len, cpQ_len]; omega, (okL_cp hc).2⟩
      obtain ⟨cA, hokf, lA, tA⟩ := hPA
      have hkn : popN (cpQ q) n = popN q n := popN_core n (core_cp q)
      have hQB : B1 = cpQ ((cpQ q).drop (popN q n)) ∧ C1 = cpQ ((cpQ q).take (popN q n)) := by
        unfold popM at hQ
        rw [if_pos hmc, hkn] at hQ
        cases hQ
        exact ⟨rfl, rfl⟩
      have hDD : D1 = cpQ ((cpQ q).filter fun x => !decide (x.1 = m)) := by
        unfold dropM at hD
        rw [if_pos hmc] at hD
        exact hD.symm
      have cB : coreQ B1 = coreQ (q.drop (popN q n)) := by rw [hQB.1, core_cp, core_drop, core_drop, core_cp]
      have cC : coreQ C1 = coreQ (q.take (popN q n)) := by rw [hQB.2, core_cp, core_take, core_take, core_cp]
      have cD : coreQ D1 = coreQ (dropQ q m) := by
        have e : (cpQ q).filter (fun x => !decide (x.1 = m)) = dropQ (cpQ q) m := rfl
        rw [hDD, core_cp, e, core_dropQ, core_dropQ, core_cp]
      have hlen : A.length + B1.length + C1.length + D1.length ≤ 100000 := by
        have e1 := core_len cB
        have e2 := core_len cC
        have e3 := core_len cD
        have e4 := List.length_filter_le (fun x : Pc => !decide (x.1 = m)) q
        rw [List.length_drop] at e1
        rw [List.length_take] at e2
        unfold dropQ at e3
        omega
      have htx : ∀ x ∈ A ++ B1 ++ (C1 ++ D1), x.2.2.1.length ≤ 100000 := by
        have tc : ∀ (L : List Pc), (∀ y ∈ L, y ∈ cpQ q) → ∀ x ∈ cpQ L, x.2.2.1.length ≤ 100000 := fun L hL x hx => by
          obtain ⟨y, hy, rfl⟩ := List.mem_map.1 hx
          have := hc.2 y (hL y hy)
          show y.2.2.1.length ≤ 100000
          omega
        intro x hx
        rcases List.mem_append.1 hx with hx | hx
        · rcases List.mem_append.1 hx with hx | hx
          · have := tA x hx; omega
          · rw [hQB.1] at hx; exact tc _ (fun y hy => List.mem_of_mem_drop hy) x hx
        · rcases List.mem_append.1 hx with hx | hx
          · rw [hQB.2] at hx; exact tc _ (fun y hy => List.mem_of_mem_take hy) x hx
          · rw [hDD] at hx; exact tc _ (fun y hy => (List.mem_filter.1 hy).1) x hx
      refine wp_seq ((d9.wet (S0 w8)).part mixFT (hE bs0) z8 (me_r8t _ q f t n m A B1 C1 D1 ok hok hm) (by kernel_rfl) fun a9 w9 k9 z9 p9 => ?_)
      obtain ⟨d10, b9⟩ := k9.dry (env' := [(0, .data false 3 (pcs q) f), (2, .int .i64 n), (3, .int .i64 m), (5, .dptr (pcell t)), (9, .data false 3 (pcs (cpQ q)) false), (10, .data false 3 (pcs A) false), (11, .bool ok), (12, .data false 3 (pcs B1) false), (13, .data false 3 (pcs C1) false), (14, .data false 3 (pcs D1) false), (61, .bool false)]) rfl
      refine wp_seq ((d10.wet (S0 w9)).part mixFT (hE bs0) z9 (me_r9 _ q f t n m A B1 C1 D1 ok hok) (by kernel_rfl) fun a10 w10 k10 z10 p10 => ?_)
      obtain ⟨d11, b10⟩ := k10.dry (env' := [(0, .data false 3 (pcs q) f), (3, .int .i64 m), (5, .dptr (pcell t)), (9, .data false 3 (pcs (cpQ q)) false), (10, .data false 3 (pcs A) false), (11, .bool ok), (12, .data false 3 (pcs B1) false), (13, .data false 3 (pcs C1) false), (14, .data false 3 (pcs D1) false), (15, .int .i64 (popN q n : Nat))]) rfl
      refine wp_seq ((d11.wet (S0 w10)).part mixFT (hE bs0) z10 (me_r10 _ q f t m A B1 C1 D1 ok hok hm (popN q n) (popN_le q n) cB cC cD) (by kernel_rfl) fun a11 w11 k11 z11 p11 => ?_)
      obtain ⟨d12, b11⟩ := k11.dry (env' := [(0, .data false 3 (pcs q) f), (5, .dptr (pcell t)), (9, .data false 3 (pcs (cpQ q)) false), (10, .data false 3 (pcs A) false), (11, .bool ok), (12, .data false 3 (pcs B1) false), (13, .data false 3 (pcs C1) false), (14, .data false 3 (pcs D1) false), (114, .bool false)]) rfl
      refine wp_seq ((d12.wet (S0 w11)).part mixFT (hE bs0) z11 (me_r11 _ q f t A B1 C1 D1 ok hok ht) (by kernel_rfl) fun a12 w12 k12 z12 p12 => ?_)
      obtain ⟨d13, b12⟩ := k12.dry (env' := [(0, .data false 3 (pcs q) f), (5, .dptr (pcell t)), (9, .data false 3 (pcs (cpQ q)) false), (10, .data false 3 (pcs A) false), (11, .bool ok), (12, .data false 3 (pcs B1) false), (13, .data false 3 (pcs C1) false), (14, .data false 3 (pcs D1) false), (16, .bool (fitsB q t))]) rfl
      refine wp_seq ((d13.wet (S0 w12)).part mixFT (hE bs0) z12 (me_r12 _ q f t A B1 C1 D1 ok (fitsB q t) hok) (by kernel_rfl) fun a13 w13 k13 z13 p13 => ?_)
      have kr := kept_trans (kept_trans (kept_trans (kept_trans (kept_trans kq (kept_all p9 [0, 9, 10, 12, 13, 14] (by kernel_rfl))) (kept_all p10 [0, 9, 10, 12, 13, 14] (by kernel_rfl))) (kept_all p11 [0, 9, 10, 12, 13, 14] (by kernel_rfl))) (kept_all p12 [0, 9, 10, 12, 13, 14] (by kernel_rfl))) (kept_all p13 [0, 9, 10, 12, 13, 14] (by kernel_rfl))
      have br := (((b8.trans b9).trans b10).trans b11).trans b12
      subst hokf
      cases hf : fitsB q t with
      | false =>
        rw [hf] at k13 cA
        rw [if_neg (by simp)] at cA
        refine wp_seq (k13.part mixFT (hE bs0) z13 (me_r13f _ q f t A B1 C1 D1 false) (by kernel_rfl) fun a14 w14 k14 z14 p14 => ?_)
        refine wp_seq (k14.part mixFT (hE bs0) z14 (me_r14f _ q f t A B1 C1 D1 hok cA) (by kernel_rfl) fun a15 w15 k15 z15 p15 => ?_)
        have b15 : Bel w12 w15 := by obtain ⟨ρ, O, A9, _⟩ := k15; exact .of A9
        exact tail a15 w15 (kept_trans (kept_trans kr (kept_all p14 [0, 9, 10, 12, 13, 14] (by kernel_rfl))) (kept_all p15 [0, 9, 10, 12, 13, 14] (by kernel_rfl))) (br.trans b15) z15 hlen htx
      | true =>
        rw [hf] at k13 cA
        rw [if_pos rfl] at cA
        refine wp_seq (k13.part mixFT (hE bs0) z13 (me_r13t _ q f t A B1 C1 D1 true hok) (by kernel_rfl) fun a14 w14 k14 z14 p14 => ?_)
        refine wp_seq (k14.part mixFT (hE bs0) z14 (me_r14t _ q f t A B1 C1 D1 hok (by omega) cA) (by kernel_rfl) fun a15 w15 k15 z15 p15 => ?_)
        have b15 : Bel w12 w15 := by obtain ⟨ρ, O, A9, _⟩ := k15; exact .of A9
        exact tail a15 w15 (kept_trans (kept_trans kr (kept_all p14 [0, 9, 10, 12, 13, 14] (by kernel_rfl))) (kept_all p15 [0, 9, 10, 12, 13, 14] (by kernel_rfl))) (br.trans b15) z15 hlen htx
end Go.Proofs.Ytfnonledcniojaa
