/- VtPlays: what was told is written over. VtPlays: what was told is written over, where it lies in rows. VtPlays: the loop over what was told. Conditions: as the statements say. -/
import Derived.Test.YtkkcblfoaldckaaVw6
set_option linter.unusedVariables false
set_option linter.unusedSimpArgs false
set_option linter.unusedSectionVars false
set_option maxRecDepth 20000
set_option maxHeartbeats 4000000
namespace Go.Proofs.Ytkkcblfoaldckaa
open Go
section
theorem gen0 {Z : RootF} (hZ : Z.Ok) (t g : Nat) : ({ Z.f t g with gen := 0 } : ARow) = Z.f t g := by
  have := hZ.gen t g
  cases h : Z.f t g
  rw [h] at this
  simp_all
theorem can3_st {X Y Z : RootF} (hX : X.has = false) (hZ : Z.Ok) : NSt3 (can3 X Y Z) 2 0 X Y Z := by
  refine ⟨Nat.le_refl _, 3, 0, 3, 0, if Y.has = true then 4 else 3, 0, rfl, rfl, ?_, hX, fun e => ⟨by omega, by omega, ?_⟩, fun e => ⟨by split <;> omega, by split <;> omega, ?_⟩, fun e e' => ?_⟩
  · rw [gen0 hZ]; rfl
  · simp [can3, e]
  · unfold can3; rw [e]; cases Y.has <;> rfl
  · rw [if_pos e]; omega
theorem can3_two {X Y Z : RootF} (hX : X.has = false) : NStG (can3 X Y Z) 0 1 X Y :=
  ⟨by omega, 3, 0, 3, 0, rfl, rfl, fun e => (by rw [hX] at e; cases e), fun e => ⟨by omega, by omega, by simp [can3, e]⟩, fun e => (by rw [hX] at e; cases e)⟩
def RZ.we : RZ → List (List AV) → RZ
  | .plain l fl, _ => .plain l fl
  | .par c m s n cap _ ps, es => .par c m s n cap es ps
  | .txt n cap _ ts rest, es => .txt n cap es ts rest
def Ones (n : Nat) (es : List (List AV)) : Prop := ∀ j, j < n → ∃ v, es[j]? = some [v]
theorem ones_set {n : Nat} {es : List (List AV)} (h : Ones n es) (j : Nat) (v : AV) : Ones n (es.set j [v]) := fun k hk => by
  obtain ⟨u, hu⟩ := h k hk
  by_cases e : j = k
  · subst e; exact ⟨v, List.getElem?_set_self (List.getElem?_eq_some_iff.1 hu).1⟩
  · exact ⟨u, by rw [List.getElem?_set_ne e]; exact hu⟩
theorem ones_of {n : Nat} {es : List (List AV)} {α : Type} (q : List α) (g : α → AV) (hn : n ≤ es.length) (h : q.map (fun x => [g x]) = es.take n) : Ones n es ∧ n = q.length := by
  have hl : q.length = n := by have := congrArg List.length h; simp at this; omega
  refine ⟨fun j hj => ?_, hl.symm⟩
  have h1 : (es.take n)[j]? = es[j]? := by rw [List.getElem?_take_of_lt hj]
  refine ⟨g (q[j]'(by omega)), ?_⟩
  rw [← h1, ← h]
  simp [show j < q.length by omega]
def RZ.okL : RZ → Prop
  | .plain l _ => Bare l
  | .par _ _ _ n _ es _ => n ≤ 1000000 ∧ Ones n es
  | .txt n _ es _ rest => n ≤ 1000000 ∧ Ones n es ∧ Bare rest
theorem rz_okL {Z : RZ} (h : Z.ok) (hb : ∀ a ∈ Z.acts, a.ps.length ≤ 1000000 ∧ a.ts.length ≤ 1000000) : Z.okL := by
  cases Z with
  | plain => exact h
  | par c m s n cap es ps =>
    obtain ⟨h1, h2⟩ := ones_of ps (fun n => .int .i64 n) h.1 h.2
    have := (hb (csiA c m s ps false) (by simp [RZ.acts])).1
    exact ⟨by rw [h2]; exact this, h1⟩
  | txt n cap es ts rest =>
    obtain ⟨h1, h2⟩ := ones_of ts (fun n => .int .i32 n) h.1 h.2.1
    have := (hb (oscT ts) (by simp [RZ.acts])).2
    exact ⟨by rw [h2]; exact this, h1, h.2.2⟩
def RZ.n : RZ → Nat
  | .plain _ _ => 0
  | .par _ _ _ n _ _ _ | .txt n _ _ _ _ => n
theorem we_okL {Z : RZ} (h : Z.okL) {es : List (List AV)} (he : Ones Z.n es) : (Z.we es).okL := by
  cases Z with
  | plain => exact h
  | par => exact ⟨h.1, he⟩
  | txt => exact ⟨h.1, he, h.2.2⟩
theorem we_acts (Z : RZ) (es : List (List AV)) : (Z.we es).acts = Z.acts := by cases Z <;> rfl
theorem can3_set (X Y : RootF) (Z : RZ) (hh : Z.has = true) (es : List (List AV)) : (can3 X Y Z.X).set (if Y.has = true then 4 else 3) ⟨1, 0, true, es⟩ = can3 X Y (Z.we es).X := by
  cases Z with
  | plain => cases hh
  | par => unfold can3; cases Y.has <;> rfl
  | txt => unfold can3; cases Y.has <;> rfl
variable (G : Nat → Option (List AV)) (l cs : List Int) (f f2 : Bool) (i : Int)
theorem gcd_12 (dl : AV) (hd : dl.ids = []) (hr : ∀ h low off o, dl.ren h low off o = dl) (k j : Int) {h : List ARow} {X Y : RootF} (hX : X.Ok) (hY : Y.Ok) (hs : NStG h 0 1 X Y) :
    agc 0 [0, 1, 5, 6, 7, 10, 11, 12] ⟨[(0, .data false 1 (rn l) f), (1, .data false 1 (ints cs) f2), (5, .ptr 0 0 0 0), (6, .ptr 1 0 0 0), (7, .int .i64 i), (10, dl), (11, .int .i64 k), (12, .int .i64 j)], h⟩ = some ⟨[(0, .data false 1 (rn l) f), (1, .data false 1 (ints cs) f2), (5, .ptr 0 0 0 0), (6, .ptr 1 0 0 0), (7, .int .i64 i), (10, dl), (11, .int .i64 k), (12, .int .i64 j)], canN X Y⟩ :=
  two_gc rfl (by simp [AV.idsL, AV.ids, hd]) hX hY hs fun order r0 r1 e0 e1 g0 g1 o0 o1 => by simp [AV.ren, hr, e0, e1, g0, g1, o0, o1]
theorem gco_12 (z gz n : Nat) (k j : Int) {h : List ARow} {X Y Z : RootF} (hX : X.Ok) (hY : Y.Ok) (hZ : Z.Ok) (hs : NSt3 h z gz X Y Z) :
    agc 0 [0, 1, 5, 6, 7, 10, 11, 12] ⟨[(0, .data false 1 (rn l) f), (1, .data false 1 (ints cs) f2), (5, .ptr 0 0 0 0), (6, .ptr 1 0 0 0), (7, .int .i64 i), (10, .own z gz 0 n n), (11, .int .i64 k), (12, .int .i64 j)], h⟩ = some ⟨[(0, .data false 1 (rn l) f), (1, .data false 1 (ints cs) f2), (5, .ptr 0 0 0 0), (6, .ptr 1 0 0 0), (7, .int .i64 i), (10, .own 2 0 0 n n), (11, .int .i64 k), (12, .int .i64 j)], can3 X Y Z⟩ :=
  three_gc rfl (by simp [AV.idsL, AV.ids]) hX hY hZ hs fun order r0 r1 r2 e0 e1 e2 g0 g1 g2 o0 o1 o2 => by simp [AV.ren, e0, e1, e2, g0, g1, g2, o0, o1, o2]
theorem gcd_13 (dl : AV) (hd : dl.ids = []) (hr : ∀ h low off o, dl.ren h low off o = dl) (k j : Int) {h : List ARow} {X Y : RootF} (hX : X.Ok) (hY : Y.Ok) (hs : NStG h 0 1 X Y) :
    agc 0 [0, 1, 5, 6, 7, 10, 11, 13] ⟨[(0, .data false 1 (rn l) f), (1, .data false 1 (ints cs) f2), (5, .ptr 0 0 0 0), (6, .ptr 1 0 0 0), (7, .int .i64 i), (10, dl), (11, .int .i64 k), (13, .int .i64 j)], h⟩ = some ⟨[(0, .data false 1 (rn l) f), (1, .data false 1 (ints cs) f2), (5, .ptr 0 0 0 0), (6, .ptr 1 0 0 0), (7, .int .i64 i), (10, dl), (11, .int .i64 k), (13, .int .i64 j)], canN X Y⟩ :=
  two_gc rfl (by simp [AV.idsL, AV.ids, hd]) hX hY hs fun order r0 r1 e0 e1 g0 g1 o0 o1 => by simp [AV.ren, hr, e0, e1, g0, g1, o0, o1]
theorem gco_13 (z gz n : Nat) (k j : Int) {h : List ARow} {X Y Z : RootF} (hX : X.Ok) (hY : Y.Ok) (hZ : Z.Ok) (hs : NSt3 h z gz X Y Z) :
    agc 0 [0, 1, 5, 6, 7, 10, 11, 13] ⟨[(0, .data false 1 (rn l) f), (1, .data false 1 (ints cs) f2), (5, .ptr 0 0 0 0), (6, .ptr 1 0 0 0), (7, .int .i64 i), (10, .own z gz 0 n n), (11, .int .i64 k), (13, .int .i64 j)], h⟩ = some ⟨[(0, .data false 1 (rn l) f), (1, .data false 1 (ints cs) f2), (5, .ptr 0 0 0 0), (6, .ptr 1 0 0 0), (7, .int .i64 i), (10, .own 2 0 0 n n), (11, .int .i64 k), (13, .int .i64 j)], can3 X Y Z⟩ :=
  three_gc rfl (by simp [AV.idsL, AV.ids]) hX hY hZ hs fun order r0 r1 r2 e0 e1 e2 g0 g1 g2 o0 o1 o2 => by simp [AV.ren, e0, e1, e2, g0, g1, g2, o0, o1, o2]
theorem gcd_2 (dl : AV) (hd : dl.ids = []) (hr : ∀ h low off o, dl.ren h low off o = dl) (k : Int) {h : List ARow} {X Y : RootF} (hX : X.Ok) (hY : Y.Ok) (hs : NStG h 0 1 X Y) :
    agc 0 [0, 1, 5, 6, 7, 10, 11] ⟨[(0, .data false 1 (rn l) f), (1, .data false 1 (ints cs) f2), (5, .ptr 0 0 0 0), (6, .ptr 1 0 0 0), (7, .int .i64 i), (10, dl), (11, .int .i64 k)], h⟩ = some ⟨[(0, .data false 1 (rn l) f), (1, .data false 1 (ints cs) f2), (5, .ptr 0 0 0 0), (6, .ptr 1 0 0 0), (7, .int .i64 i), (10, dl), (11, .int .i64 k)], canN X Y⟩ :=
  two_gc rfl (by simp [AV.idsL, AV.ids, hd]) hX hY hs fun order r0 r1 e0 e1 g0 g1 o0 o1 => by simp [AV.ren, hr, e0, e1, g0, g1, o0, o1]
theorem gco_2 (z gz n : Nat) (k : Int) {h : List ARow} {X Y Z : RootF} (hX : X.Ok) (hY : Y.Ok) (hZ : Z.Ok) (hs : NSt3 h z gz X Y Z) :
    agc 0 [0, 1, 5, 6, 7, 10, 11] ⟨[(0, .data false 1 (rn l) f), (1, .data false 1 (ints cs) f2), (5, .ptr 0 0 0 0), (6, .ptr 1 0 0 0), (7, .int .i64 i), (10, .own z gz 0 n n), (11, .int .i64 k)], h⟩ = some ⟨[(0, .data false 1 (rn l) f), (1, .data false 1 (ints cs) f2), (5, .ptr 0 0 0 0), (6, .ptr 1 0 0 0), (7, .int .i64 i), (10, .own 2 0 0 n n), (11, .int .i64 k)], can3 X Y Z⟩ :=
  three_gc rfl (by simp [AV.idsL, AV.ids]) hX hY hZ hs fun order r0 r1 r2 e0 e1 e2 g0 g1 g2 o0 o1 o2 => by simp [AV.ren, e0, e1, e2, g0, g1, g2, o0, o1, o2]
theorem datad_3 (acts : List Act') (b : Bool) (hb : Bare acts) (k : Nat) (hk : k < acts.length) {h : List ARow} {X Y : RootF} (hX : X.Ok) (hY : Y.Ok) (hs : NStG h 0 1 X Y) :
    aE G FT 0 lp_law11_VtPlays_3 ⟨[(0, .data false 1 (rn l) f), (1, .data false 1 (ints cs) f2), (5, .ptr 0 0 0 0), (6, .ptr 1 0 0 0), (7, .int .i64 i), (10, .data false 6 (actG acts) b), (11, .int .i64 k), (12, .int .i64 0)], h⟩ = some (.exit 6, ⟨[(0, .data false 1 (rn l) f), (1, .data false 1 (ints cs) f2), (5, .ptr 0 0 0 0), (6, .ptr 1 0 0 0), (7, .int .i64 i), (10, .data false 6 (actG acts) b), (11, .int .i64 k), (12, .int .i64 0), (99, .bool false)], canN X Y⟩) := by
  have hg := gcd_12 l cs f f2 i (.data false 6 (actG acts) b) (by simp [AV.ids]) (fun _ _ _ _ => by simp [AV.ren]) k 0 hX hY hs
  have a1 := actG_at hk
  have h2 := hb _ (List.getElem_mem hk)
  generalize acts[k] = a at a1 h2
  obtain ⟨ak, c, m, s, ps, pf, ts, tf⟩ := a
  obtain ⟨h3, h4⟩ := h2
  simp only at h3 h4
  subst h3 h4
  simp only [Act'.g, ints, rn, List.map_nil] at a1
  rw [lp_law11_VtPlays_3, y_loop, hg]
  (sym => simp [Qa,Qd,Qe,Qi,Qr,Qt,Q4,Xa,Xp,Xs,Xy,Ya,Yh,Ys,Yt,Yw,Yy,Y9,Za,Zb,Zc,Ze,Zg,Zh,Zm,Zt,Zv,Zw,Z3,Jj,Jk,Jm,Jr,Ju,Jv,Hh,Hr,Hs,Ni,Nk,Nm,Be,Bh,q5R0.eq_1,q5R1.eq_1,q5R2.eq_1,q5R3.eq_1,q5R4.eq_1,q5R5.eq_1,q5R6.eq_1,q5R7.eq_1,q5R8.eq_1,q5R10.eq_1,q5R11.eq_1,q5R13.eq_1,q5R14.eq_1,q5R15.eq_1,q5R16.eq_1,q5R17.eq_1,q5R18.eq_1,q5R12.eq_1,q5R19.eq_1,q5R20.eq_1,q5R21.eq_1,q5R22.eq_1,q5R23.eq_1,q5R24.eq_1,q5R25.eq_1,q5R27.eq_1,q5R28.eq_1,q5R30.eq_1,q5R29.eq_1,q5R31.eq_1,q5R32.eq_1,q5R34.eq_1,q5R33.eq_1,q5R26.eq_1,q5R9.eq_1,q5R35.eq_1,c_law11_VtPlays.eq_1,c_law11_VtPlays_L3.eq_1,a1])
theorem datad_4 (acts : List Act') (b : Bool) (hb : Bare acts) (k : Nat) (hk : k < acts.length) {h : List ARow} {X Y : RootF} (hX : X.Ok) (hY : Y.Ok) (hs : NStG h 0 1 X Y) :
    aE G FT 0 lp_law11_VtPlays_4 ⟨[(0, .data false 1 (rn l) f), (1, .data false 1 (ints cs) f2), (5, .ptr 0 0 0 0), (6, .ptr 1 0 0 0), (7, .int .i64 i), (10, .data false 6 (actG acts) b), (11, .int .i64 k), (13, .int .i64 0)], h⟩ = some (.exit 8, ⟨[(0, .data false 1 (rn l) f), (1, .data false 1 (ints cs) f2), (5, .ptr 0 0 0 0), (6, .ptr 1 0 0 0), (7, .int .i64 i), (10, .data false 6 (actG acts) b), (11, .int .i64 k), (13, .int .i64 0), (116, .bool false)], canN X Y⟩) := by
  have hg := gcd_13 l cs f f2 i (.data false 6 (actG acts) b) (by simp [AV.ids]) (fun _ _ _ _ => by simp [AV.ren]) k 0 hX hY hs
  have a1 := actG_at hk
  have h2 := hb _ (List.getElem_mem hk)
  generalize acts[k] = a at a1 h2
  obtain ⟨ak, c, m, s, ps, pf, ts, tf⟩ := a
  obtain ⟨h3, h4⟩ := h2
  simp only at h3 h4
  subst h3 h4
  simp only [Act'.g, ints, rn, List.map_nil] at a1
  rw [lp_law11_VtPlays_4, y_loop, hg]
  (sym => simp [Qa,Qd,Qe,Qi,Qr,Qt,Q4,Xa,Xp,Xs,Xy,Ya,Yh,Ys,Yt,Yw,Yy,Y9,Za,Zb,Zc,Ze,Zg,Zh,Zm,Zt,Zv,Zw,Z3,Jj,Jk,Jm,Jr,Ju,Jv,Hh,Hr,Hs,Ni,Nk,Nm,Be,Bh,q5R0.eq_1,q5R1.eq_1,q5R2.eq_1,q5R3.eq_1,q5R4.eq_1,q5R5.eq_1,q5R6.eq_1,q5R7.eq_1,q5R8.eq_1,q5R10.eq_1,q5R11.eq_1,q5R13.eq_1,q5R14.eq_1,q5R15.eq_1,q5R16.eq_1,q5R17.eq_1,q5R18.eq_1,q5R12.eq_1,q5R19.eq_1,q5R20.eq_1,q5R21.eq_1,q5R22.eq_1,q5R23.eq_1,q5R24.eq_1,q5R25.eq_1,q5R27.eq_1,q5R28.eq_1,q5R30.eq_1,q5R29.eq_1,q5R31.eq_1,q5R32.eq_1,q5R34.eq_1,q5R33.eq_1,q5R26.eq_1,q5R9.eq_1,q5R35.eq_1,c_law11_VtPlays.eq_1,c_law11_VtPlays_L4.eq_1,a1])
theorem datad_2 (acts : List Act') (b : Bool) (hb : Bare acts) (hl : acts.length ≤ 1000000) {X Y : RootF} (hX : X.Ok) (hY : Y.Ok) : ∀ m k, k + m = acts.length → ∀ h, NStG h 0 1 X Y →
    aE G FT 0 lp_law11_VtPlays_2 ⟨[(0, .data false 1 (rn l) f), (1, .data false 1 (ints cs) f2), (5, .ptr 0 0 0 0), (6, .ptr 1 0 0 0), (7, .int .i64 i), (10, .data false 6 (actG acts) b), (11, .int .i64 k)], h⟩ = some (.exit 4, ⟨[(0, .data false 1 (rn l) f), (1, .data false 1 (ints cs) f2), (5, .ptr 0 0 0 0), (6, .ptr 1 0 0 0), (7, .int .i64 i), (10, .data false 6 (actG acts) b), (11, .int .i64 acts.length), (89, .bool false)], canN X Y⟩) := by
  intro m
  have al := actG_len acts
  induction m with
  | zero =>
    intro k hk h hs
    obtain rfl : k = acts.length := by omega
    have hg := gcd_2 l cs f f2 i (.data false 6 (actG acts) b) (by simp [AV.ids]) (fun _ _ _ _ => by simp [AV.ren]) acts.length hX hY hs
    have q : ¬ (acts.length : Int) < acts.length := by omega
    rw [lp_law11_VtPlays_2, y_loop, hg]
    (sym => simp [Qa,Qc,Qd,Qe,Qi,Qj,Qr,Qt,Xa,Xy,X5,Ya,Yh,Y9,Za,Zb,Zc,Ze,Zg,Zh,Zt,Zv,Zw,Z3,Jj,Jk,Jm,Jn,Jo,Jq,Jr,Js,Ju,Jv,Nl,Nm,Be,q5R0.eq_1,q5R1.eq_1,q5R2.eq_1,q5R3.eq_1,q5R4.eq_1,q5R5.eq_1,q5R6.eq_1,q5R7.eq_1,q5R8.eq_1,q5R10.eq_1,q5R11.eq_1,q5R13.eq_1,q5R14.eq_1,q5R15.eq_1,q5R16.eq_1,q5R17.eq_1,q5R18.eq_1,q5R12.eq_1,q5R19.eq_1,q5R20.eq_1,q5R21.eq_1,q5R22.eq_1,q5R23.eq_1,q5R24.eq_1,q5R25.eq_1,q5R27.eq_1,q5R28.eq_1,q5R30.eq_1,q5R29.eq_1,q5R31.eq_1,q5R32.eq_1,q5R34.eq_1,q5R33.eq_1,q5R26.eq_1,q5R9.eq_1,q5R35.eq_1,c_law11_VtPlays.eq_1,c_law11_VtPlays_L2.eq_1,al,q])
  | succ m ih =>
    intro k hk h hs
    have hg := gcd_2 l cs f f2 i (.data false 6 (actG acts) b) (by simp [AV.ids]) (fun _ _ _ _ => by simp [AV.ren]) k hX hY hs
    have q : (k : Int) < acts.length := by omega
    have hw := wrap_nat (n := k) (by omega)
    have e3 := datad_3 G l cs f f2 i acts b hb k (by omega) hX hY (canN_st X Y)
    have e4 := datad_4 G l cs f f2 i acts b hb k (by omega) hX hY (canN_st X Y)
    have ih := ih (k + 1) (by omega) (canN X Y) (canN_st X Y)
    rw [lp_law11_VtPlays_2] at ih
    rw [lp_law11_VtPlays_2, y_loop, hg, ← ih]
    (sym => simp [Qa,Qc,Qd,Qe,Qi,Qj,Qr,Qt,Xa,Xy,X5,Ya,Yh,Y9,Za,Zb,Zc,Ze,Zg,Zh,Zt,Zv,Zw,Z3,Jj,Jk,Jm,Jn,Jo,Jq,Jr,Js,Ju,Jv,Nl,Nm,Be,q5R0.eq_1,q5R1.eq_1,q5R2.eq_1,q5R3.eq_1,q5R4.eq_1,q5R5.eq_1,q5R6.eq_1,q5R7.eq_1,q5R8.eq_1,q5R10.eq_1,q5R11.eq_1,q5R13.eq_1,q5R14.eq_1,q5R15.eq_1,q5R16.eq_1,q5R17.eq_1,q5R18.eq_1,q5R12.eq_1,q5R19.eq_1,q5R20.eq_1,q5R21.eq_1,q5R22.eq_1,q5R23.eq_1,q5R24.eq_1,q5R25.eq_1,q5R27.eq_1,q5R28.eq_1,q5R30.eq_1,q5R29.eq_1,q5R31.eq_1,q5R32.eq_1,q5R34.eq_1,q5R33.eq_1,q5R26.eq_1,q5R9.eq_1,q5R35.eq_1,c_law11_VtPlays.eq_1,c_law11_VtPlays_L2.eq_1,al,q,hw,e3,e4])
theorem own0_3 (n k z gz : Nat) {h : List ARow} {X Y Z : RootF} (hX : X.Ok) (hY : Y.Ok) (hZ : Z.Ok) (hs : NSt3 h z gz X Y Z) (hn : k < n) (fl : Bool) (es : List (List AV)) (hr : Z.f (if Y.has = true then 4 else 3) 0 = ⟨6, 0, fl, es⟩) (a0 a1 a2 a3 a5 : AV) (pf : Bool) (he : es[k]? = some [a0, a1, a2, a3, .data false 1 [] pf, a5]) :
    aE G FT 0 lp_law11_VtPlays_3 ⟨[(0, .data false 1 (rn l) f), (1, .data false 1 (ints cs) f2), (5, .ptr 0 0 0 0), (6, .ptr 1 0 0 0), (7, .int .i64 i), (10, .own z gz 0 n n), (11, .int .i64 k), (12, .int .i64 0)], h⟩ = some (.exit 6, ⟨[(0, .data false 1 (rn l) f), (1, .data false 1 (ints cs) f2), (5, .ptr 0 0 0 0), (6, .ptr 1 0 0 0), (7, .int .i64 i), (10, .own 2 0 0 n n), (11, .int .i64 k), (12, .int .i64 0), (99, .bool false)], can3 X Y Z⟩) := by
  have hg := gco_12 l cs f f2 i z gz n k 0 hX hY hZ hs
  have r2 : (can3 X Y Z)[2]? = some ⟨6, 0, fl, es⟩ := by rw [← hr]; rfl
  have q1 := (List.getElem?_eq_some_iff.1 he).1
  rw [lp_law11_VtPlays_3, y_loop, hg]
  generalize can3 X Y Z = h0 at r2
  have q2 := (List.getElem?_eq_some_iff.1 r2).1
  have hn2 : (k : Int) < n := by omega
  (sym => simp [Qa,Qd,Qe,Qi,Qr,Qt,Q4,Xa,Xp,Xs,Xy,Ya,Yh,Yr,Yt,Yv,Yx,Y9,Za,Zb,Zc,Ze,Zg,Zh,Zm,Zt,Zv,Zw,Zx,Zy,Z0,Z3,Jj,Jk,Jm,Jr,Ju,Jv,Hh,Hi,H8,Ni,Nk,Nm,Nz,Be,Bh,q5R0.eq_1,q5R1.eq_1,q5R2.eq_1,q5R3.eq_1,q5R4.eq_1,q5R5.eq_1,q5R6.eq_1,q5R7.eq_1,q5R8.eq_1,q5R10.eq_1,q5R11.eq_1,q5R13.eq_1,q5R14.eq_1,q5R15.eq_1,q5R16.eq_1,q5R17.eq_1,q5R18.eq_1,q5R12.eq_1,q5R19.eq_1,q5R20.eq_1,q5R21.eq_1,q5R22.eq_1,q5R23.eq_1,q5R24.eq_1,q5R25.eq_1,q5R27.eq_1,q5R28.eq_1,q5R30.eq_1,q5R29.eq_1,q5R31.eq_1,q5R32.eq_1,q5R34.eq_1,q5R33.eq_1,q5R26.eq_1,q5R9.eq_1,q5R35.eq_1,c_law11_VtPlays.eq_1,c_law11_VtPlays_L3.eq_1,hn2,r2,he,q1,q2])
theorem own0_4 (n k z gz : Nat) {h : List ARow} {X Y Z : RootF} (hX : X.Ok) (hY : Y.Ok) (hZ : Z.Ok) (hs : NSt3 h z gz X Y Z) (hn : k < n) (fl : Bool) (es : List (List AV)) (hr : Z.f (if Y.has = true then 4 else 3) 0 = ⟨6, 0, fl, es⟩) (a0 a1 a2 a3 a4 : AV) (pf : Bool) (he : es[k]? = some [a0, a1, a2, a3, a4, .data false 1 [] pf]) :
    aE G FT 0 lp_law11_VtPlays_4 ⟨[(0, .data false 1 (rn l) f), (1, .data false 1 (ints cs) f2), (5, .ptr 0 0 0 0), (6, .ptr 1 0 0 0), (7, .int .i64 i), (10, .own z gz 0 n n), (11, .int .i64 k), (13, .int .i64 0)], h⟩ = some (.exit 8, ⟨[(0, .data false 1 (rn l) f), (1, .data false 1 (ints cs) f2), (5, .ptr 0 0 0 0), (6, .ptr 1 0 0 0), (7, .int .i64 i), (10, .own 2 0 0 n n), (11, .int .i64 k), (13, .int .i64 0), (116, .bool false)], can3 X Y Z⟩) := by
  have hg := gco_13 l cs f f2 i z gz n k 0 hX hY hZ hs
  have r2 : (can3 X Y Z)[2]? = some ⟨6, 0, fl, es⟩ := by rw [← hr]; rfl
  have q1 := (List.getElem?_eq_some_iff.1 he).1
  rw [lp_law11_VtPlays_4, y_loop, hg]
  generalize can3 X Y Z = h0 at r2
  have q2 := (List.getElem?_eq_some_iff.1 r2).1
  have hn2 : (k : Int) < n := by omega
  (sym => simp [Qa,Qd,Qe,Qi,Qr,Qt,Q4,Xa,Xp,Xs,Xy,Ya,Yh,Yr,Yt,Yv,Yx,Y9,Za,Zb,Zc,Ze,Zg,Zh,Zm,Zt,Zv,Zw,Zx,Zy,Z0,Z3,Jj,Jk,Jm,Jr,Ju,Jv,Hh,Hi,H8,Ni,Nk,Nm,Nz,Be,Bh,q5R0.eq_1,q5R1.eq_1,q5R2.eq_1,q5R3.eq_1,q5R4.eq_1,q5R5.eq_1,q5R6.eq_1,q5R7.eq_1,q5R8.eq_1,q5R10.eq_1,q5R11.eq_1,q5R13.eq_1,q5R14.eq_1,q5R15.eq_1,q5R16.eq_1,q5R17.eq_1,q5R18.eq_1,q5R12.eq_1,q5R19.eq_1,q5R20.eq_1,q5R21.eq_1,q5R22.eq_1,q5R23.eq_1,q5R24.eq_1,q5R25.eq_1,q5R27.eq_1,q5R28.eq_1,q5R30.eq_1,q5R29.eq_1,q5R31.eq_1,q5R32.eq_1,q5R34.eq_1,q5R33.eq_1,q5R26.eq_1,q5R9.eq_1,q5R35.eq_1,c_law11_VtPlays.eq_1,c_law11_VtPlays_L4.eq_1,hn2,r2,he,q1,q2])
end
section
variable (G : Nat → Option (List AV)) (l cs : List Int) (f f2 : Bool) (i : Int)
theorem own3_w (c m : Int) (s : ByteArray) (nn cap : Nat) (ps : List Int) {X Y : RootF} (hX : X.Ok) (hY : Y.Ok) (hxh : X.has = false) (hL : nn ≤ 1000000) : ∀ mm j, j + mm = nn → ∀ (es : List (List AV)), Ones nn es → ∀ (z gz : Nat) (h : List ARow), NSt3 h z gz X Y (RZ.X (.par c m s nn cap es ps)) →
    ∃ es', Ones nn es' ∧ aE G FT 0 lp_law11_VtPlays_3 ⟨[(0, .data false 1 (rn l) f), (1, .data false 1 (ints cs) f2), (5, .ptr 0 0 0 0), (6, .ptr 1 0 0 0), (7, .int .i64 i), (10, .own z gz 0 1 1), (11, .int .i64 0), (12, .int .i64 j)], h⟩ = some (.exit 6, ⟨[(0, .data false 1 (rn l) f), (1, .data false 1 (ints cs) f2), (5, .ptr 0 0 0 0), (6, .ptr 1 0 0 0), (7, .int .i64 i), (10, .own 2 0 0 1 1), (11, .int .i64 0), (12, .int .i64 nn), (99, .bool false)], can3 X Y (RZ.X (.par c m s nn cap es' ps))⟩) := by
  intro mm
  induction mm with
  | zero =>
    intro j hj es he z gz h hs
    obtain rfl : nn = j := by omega
    have hg := gco_12 l cs f f2 i z gz 1 0 nn hX hY (rz_ok _) hs
    have q : ¬ (nn : Int) < nn := by omega
    refine ⟨es, he, ?_⟩
    rw [lp_law11_VtPlays_3, y_loop, hg]
    generalize hC : can3 X Y (RZ.X (.par c m s nn cap es ps)) = C
    cases hy : Y.has with
    | false =>
      have r2 : C[2]? = some ⟨6, 0, false, [[.int .i64 4, .int .i32 c, .int .i32 m, .str s, .own 3 0 0 nn cap, .data false 1 [] true]]⟩ := by rw [← hC]; unfold can3; rw [hy]; rfl
      have r3 : C[3]? = some ⟨1, 0, true, es⟩ := by rw [← hC]; unfold can3; rw [hy]; rfl
      have q2 := (List.getElem?_eq_some_iff.1 r2).1
      have q3 := (List.getElem?_eq_some_iff.1 r3).1
      (sym => simp [Qa,Qc,Qd,Qe,Qi,Qj,Qr,Qt,Q4,Q5,Xa,Xp,Xs,Xy,X5,Ya,Yg,Yr,Yt,Yv,Yx,Y9,Za,Zb,Zc,Zd,Ze,Zg,Zh,Zm,Zn,Zt,Zv,Zw,Zx,Zy,Z0,Z1,Z3,Jj,Jk,Jm,Jn,Jo,Jr,Js,Ju,Jv,J3,Hh,Hi,Hk,H8,Ni,Nk,Nl,Nm,No,Nz,Be,Bh,Bi,q5R0.eq_1,q5R1.eq_1,q5R2.eq_1,q5R3.eq_1,q5R4.eq_1,q5R5.eq_1,q5R6.eq_1,q5R7.eq_1,q5R8.eq_1,q5R10.eq_1,q5R11.eq_1,q5R13.eq_1,q5R14.eq_1,q5R15.eq_1,q5R16.eq_1,q5R17.eq_1,q5R18.eq_1,q5R12.eq_1,q5R19.eq_1,q5R20.eq_1,q5R21.eq_1,q5R22.eq_1,q5R23.eq_1,q5R24.eq_1,q5R25.eq_1,q5R27.eq_1,q5R28.eq_1,q5R30.eq_1,q5R29.eq_1,q5R31.eq_1,q5R32.eq_1,q5R34.eq_1,q5R33.eq_1,q5R26.eq_1,q5R9.eq_1,q5R35.eq_1,c_law11_VtPlays.eq_1,c_law11_VtPlays_L3.eq_1,q,r2,q2])
    | true =>
      have r2 : C[2]? = some ⟨6, 0, false, [[.int .i64 4, .int .i32 c, .int .i32 m, .str s, .own 4 0 0 nn cap, .data false 1 [] true]]⟩ := by rw [← hC]; unfold can3; rw [hy]; rfl
      have r3 : C[4]? = some ⟨1, 0, true, es⟩ := by rw [← hC]; unfold can3; rw [hy]; rfl
      have q2 := (List.getElem?_eq_some_iff.1 r2).1
      have q3 := (List.getElem?_eq_some_iff.1 r3).1
      (sym => simp [Qa,Qc,Qd,Qe,Qi,Qj,Qr,Qt,Q4,Q5,Xa,Xp,Xs,Xy,X5,Ya,Yg,Yr,Yt,Yv,Yx,Y9,Za,Zb,Zc,Zd,Ze,Zg,Zh,Zm,Zn,Zt,Zv,Zw,Zx,Zy,Z0,Z1,Z3,Jj,Jk,Jm,Jn,Jo,Jr,Js,Ju,Jv,J3,Hh,Hi,Hk,H8,Ni,Nk,Nl,Nm,No,Nz,Be,Bh,Bi,q5R0.eq_1,q5R1.eq_1,q5R2.eq_1,q5R3.eq_1,q5R4.eq_1,q5R5.eq_1,q5R6.eq_1,q5R7.eq_1,q5R8.eq_1,q5R10.eq_1,q5R11.eq_1,q5R13.eq_1,q5R14.eq_1,q5R15.eq_1,q5R16.eq_1,q5R17.eq_1,q5R18.eq_1,q5R12.eq_1,q5R19.eq_1,q5R20.eq_1,q5R21.eq_1,q5R22.eq_1,q5R23.eq_1,q5R24.eq_1,q5R25.eq_1,q5R27.eq_1,q5R28.eq_1,q5R30.eq_1,q5R29.eq_1,q5R31.eq_1,q5R32.eq_1,q5R34.eq_1,q5R33.eq_1,q5R26.eq_1,q5R9.eq_1,q5R35.eq_1,c_law11_VtPlays.eq_1,c_law11_VtPlays_L3.eq_1,q,r2,q2])
  | succ mm ih =>
    intro j hj es he z gz h hs
    have hg := gco_12 l cs f f2 i z gz 1 0 j hX hY (rz_ok _) hs
    have q : (j : Int) < nn := by omega
    obtain ⟨u, q4⟩ := he j (by omega)
    have q5 := (List.getElem?_eq_some_iff.1 q4).1
    have hw := wrap_nat (n := j) (by omega)
    have st := can3_set X Y (.par c m s nn cap es ps) rfl (es.set j [.int .i64 (-1)])
    have ns : NSt3 (can3 X Y (RZ.X (.par c m s nn cap (es.set j [.int .i64 (-1)]) ps))) 2 0 X Y (RZ.X (.par c m s nn cap (es.set j [.int .i64 (-1)]) ps)) := can3_st hxh (rz_ok _)
    simp only [RZ.we] at st
    rw [← st] at ns
    obtain ⟨es', k1, ih⟩ := ih (j + 1) (by omega) (es.set j [.int .i64 (-1)]) (ones_set he j _) 2 0 _ ns
    refine ⟨es', k1, ?_⟩
    rw [lp_law11_VtPlays_3] at ih
    rw [lp_law11_VtPlays_3, y_loop, hg, ← ih]
    generalize hC : can3 X Y (RZ.X (.par c m s nn cap es ps)) = C
    cases hy : Y.has with
    | false =>
      have r2 : C[2]? = some ⟨6, 0, false, [[.int .i64 4, .int .i32 c, .int .i32 m, .str s, .own 3 0 0 nn cap, .data false 1 [] true]]⟩ := by rw [← hC]; unfold can3; rw [hy]; rfl
      have r3 : C[3]? = some ⟨1, 0, true, es⟩ := by rw [← hC]; unfold can3; rw [hy]; rfl
      have q2 := (List.getElem?_eq_some_iff.1 r2).1
      have q3 := (List.getElem?_eq_some_iff.1 r3).1
      simp only [Bool.false_eq_true, if_false]
      (sym => simp [Qa,Qc,Qd,Qe,Qi,Qj,Qr,Qt,Q4,Q5,Xa,Xp,Xs,Xy,X5,Ya,Yg,Yr,Yt,Yv,Yx,Y9,Za,Zb,Zc,Zd,Ze,Zg,Zh,Zm,Zn,Zt,Zv,Zw,Zx,Zy,Z0,Z1,Z3,Jj,Jk,Jm,Jn,Jo,Jr,Js,Ju,Jv,J3,Hh,Hi,Hk,H8,Ni,Nk,Nl,Nm,No,Nz,Be,Bh,Bi,q5R0.eq_1,q5R1.eq_1,q5R2.eq_1,q5R3.eq_1,q5R4.eq_1,q5R5.eq_1,q5R6.eq_1,q5R7.eq_1,q5R8.eq_1,q5R10.eq_1,q5R11.eq_1,q5R13.eq_1,q5R14.eq_1,q5R15.eq_1,q5R16.eq_1,q5R17.eq_1,q5R18.eq_1,q5R12.eq_1,q5R19.eq_1,q5R20.eq_1,q5R21.eq_1,q5R22.eq_1,q5R23.eq_1,q5R24.eq_1,q5R25.eq_1,q5R27.eq_1,q5R28.eq_1,q5R30.eq_1,q5R29.eq_1,q5R31.eq_1,q5R32.eq_1,q5R34.eq_1,q5R33.eq_1,q5R26.eq_1,q5R9.eq_1,q5R35.eq_1,c_law11_VtPlays.eq_1,c_law11_VtPlays_L3.eq_1,q,q4,q5,hw,r2,r3,q2,q3])
    | true =>
      have r2 : C[2]? = some ⟨6, 0, false, [[.int .i64 4, .int .i32 c, .int .i32 m, .str s, .own 4 0 0 nn cap, .data false 1 [] true]]⟩ := by rw [← hC]; unfold can3; rw [hy]; rfl
      have r3 : C[4]? = some ⟨1, 0, true, es⟩ := by rw [← hC]; unfold can3; rw [hy]; rfl
      have q2 := (List.getElem?_eq_some_iff.1 r2).1
      have q3 := (List.getElem?_eq_some_iff.1 r3).1
      simp only [if_true]
      (sym => simp [Qa,Qc,Qd,Qe,Qi,Qj,Qr,Qt,Q4,Q5,Xa,Xp,Xs,Xy,X5,Ya,Yg,Yr,Yt,Yv,Yx,Y9,Za,Zb,Zc,Zd,Ze,Zg,Zh,Zm,Zn,Zt,Zv,Zw,Zx,Zy,Z0,Z1,Z3,Jj,Jk,Jm,Jn,Jo,Jr,Js,Ju,Jv,J3,Hh,Hi,Hk,H8,Ni,Nk,Nl,Nm,No,Nz,Be,Bh,Bi,q5R0.eq_1,q5R1.eq_1,q5R2.eq_1,q5R3.eq_1,q5R4.eq_1,q5R5.eq_1,q5R6.eq_1,q5R7.eq_1,q5R8.eq_1,q5R10.eq_1,q5R11.eq_1,q5R13.eq_1,q5R14.eq_1,q5R15.eq_1,q5R16.eq_1,q5R17.eq_1,q5R18.eq_1,q5R12.eq_1,q5R19.eq_1,q5R20.eq_1,q5R21.eq_1,q5R22.eq_1,q5R23.eq_1,q5R24.eq_1,q5R25.eq_1,q5R27.eq_1,q5R28.eq_1,q5R30.eq_1,q5R29.eq_1,q5R31.eq_1,q5R32.eq_1,q5R34.eq_1,q5R33.eq_1,q5R26.eq_1,q5R9.eq_1,q5R35.eq_1,c_law11_VtPlays.eq_1,c_law11_VtPlays_L3.eq_1,q,q4,q5,hw,r2,r3,q2,q3])
theorem own4_w (n : Nat) (hn1 : 1 ≤ n) (nn cap : Nat) (ts : List Int) (rest : List Act') {X Y : RootF} (hX : X.Ok) (hY : Y.Ok) (hxh : X.has = false) (hL : nn ≤ 1000000) : ∀ mm j, j + mm = nn → ∀ (es : List (List AV)), Ones nn es → ∀ (z gz : Nat) (h : List ARow), NSt3 h z gz X Y (RZ.X (.txt nn cap es ts rest)) →
    ∃ es', Ones nn es' ∧ aE G FT 0 lp_law11_VtPlays_4 ⟨[(0, .data false 1 (rn l) f), (1, .data false 1 (ints cs) f2), (5, .ptr 0 0 0 0), (6, .ptr 1 0 0 0), (7, .int .i64 i), (10, .own z gz 0 n n), (11, .int .i64 0), (13, .int .i64 j)], h⟩ = some (.exit 8, ⟨[(0, .data false 1 (rn l) f), (1, .data false 1 (ints cs) f2), (5, .ptr 0 0 0 0), (6, .ptr 1 0 0 0), (7, .int .i64 i), (10, .own 2 0 0 n n), (11, .int .i64 0), (13, .int .i64 nn), (116, .bool false)], can3 X Y (RZ.X (.txt nn cap es' ts rest))⟩) := by
  intro mm
  have hn2 : (0 : Int) < n := by omega
  induction mm with
  | zero =>
    intro j hj es he z gz h hs
    obtain rfl : nn = j := by omega
    have hg := gco_13 l cs f f2 i z gz n 0 nn hX hY (rz_ok _) hs
    have q : ¬ (nn : Int) < nn := by omega
    refine ⟨es, he, ?_⟩
    rw [lp_law11_VtPlays_4, y_loop, hg]
    generalize hC : can3 X Y (RZ.X (.txt nn cap es ts rest)) = C
    cases hy : Y.has with
    | false =>
      have r2 : C[2]? = some ⟨6, 0, false, ([.int .i64 5, .int .i32 0, .int .i32 0, .str ⟨#[]⟩, .data false 1 [] true, .own 3 0 0 nn cap] :: actG rest)⟩ := by rw [← hC]; unfold can3; rw [hy]; rfl
      have r3 : C[3]? = some ⟨1, 0, true, es⟩ := by rw [← hC]; unfold can3; rw [hy]; rfl
      have q2 := (List.getElem?_eq_some_iff.1 r2).1
      have q3 := (List.getElem?_eq_some_iff.1 r3).1
      (sym => simp [Qa,Qc,Qd,Qe,Qi,Qj,Qr,Qt,Q4,Q5,Xa,Xp,Xs,Xy,X5,Ya,Yg,Yr,Yt,Yv,Yx,Y9,Za,Zb,Zc,Zd,Ze,Zg,Zh,Zm,Zn,Zt,Zv,Zw,Zx,Zy,Z0,Z1,Z3,Jj,Jk,Jm,Jn,Jo,Jr,Js,Ju,Jv,J3,Hh,Hi,Hk,H8,Ni,Nk,Nl,Nm,No,Nz,Be,Bi,q5R0.eq_1,q5R1.eq_1,q5R2.eq_1,q5R3.eq_1,q5R4.eq_1,q5R5.eq_1,q5R6.eq_1,q5R7.eq_1,q5R8.eq_1,q5R10.eq_1,q5R11.eq_1,q5R13.eq_1,q5R14.eq_1,q5R15.eq_1,q5R16.eq_1,q5R17.eq_1,q5R18.eq_1,q5R12.eq_1,q5R19.eq_1,q5R20.eq_1,q5R21.eq_1,q5R22.eq_1,q5R23.eq_1,q5R24.eq_1,q5R25.eq_1,q5R27.eq_1,q5R28.eq_1,q5R30.eq_1,q5R29.eq_1,q5R31.eq_1,q5R32.eq_1,q5R34.eq_1,q5R33.eq_1,q5R26.eq_1,q5R9.eq_1,q5R35.eq_1,c_law11_VtPlays.eq_1,c_law11_VtPlays_L4.eq_1,q,r2,q2,hn2])
    | true =>
      have r2 : C[2]? = some ⟨6, 0, false, ([.int .i64 5, .int .i32 0, .int .i32 0, .str ⟨#[]⟩, .data false 1 [] true, .own 4 0 0 nn cap] :: actG rest)⟩ := by rw [← hC]; unfold can3; rw [hy]; rfl
      have r3 : C[4]? = some ⟨1, 0, true, es⟩ := by rw [← hC]; unfold can3; rw [hy]; rfl
      have q2 := (List.getElem?_eq_some_iff.1 r2).1
      have q3 := (List.getElem?_eq_some_iff.1 r3).1
      (sym => simp [Qa,Qc,Qd,Qe,Qi,Qj,Qr,Qt,Q4,Q5,Xa,Xp,Xs,Xy,X5,Ya,Yg,Yr,Yt,Yv,Yx,Y9,Za,Zb,Zc,Zd,Ze,Zg,Zh,Zm,Zn,Zt,Zv,Zw,Zx,Zy,Z0,Z1,Z3,Jj,Jk,Jm,Jn,Jo,Jr,Js,Ju,Jv,J3,Hh,Hi,Hk,H8,Ni,Nk,Nl,Nm,No,Nz,Be,Bi,q5R0.eq_1,q5R1.eq_1,q5R2.eq_1,q5R3.eq_1,q5R4.eq_1,q5R5.eq_1,q5R6.eq_1,q5R7.eq_1,q5R8.eq_1,q5R10.eq_1,q5R11.eq_1,q5R13.eq_1,q5R14.eq_1,q5R15.eq_1,q5R16.eq_1,q5R17.eq_1,q5R18.eq_1,q5R12.eq_1,q5R19.eq_1,q5R20.eq_1,q5R21.eq_1,q5R22.eq_1,q5R23.eq_1,q5R24.eq_1,q5R25.eq_1,q5R27.eq_1,q5R28.eq_1,q5R30.eq_1,q5R29.eq_1,q5R31.eq_1,q5R32.eq_1,q5R34.eq_1,q5R33.eq_1,q5R26.eq_1,q5R9.eq_1,q5R35.eq_1,c_law11_VtPlays.eq_1,c_law11_VtPlays_L4.eq_1,q,r2,q2,hn2])
  | succ mm ih =>
    intro j hj es he z gz h hs
    have hg := gco_13 l cs f f2 i z gz n 0 j hX hY (rz_ok _) hs
    have q : (j : Int) < nn := by omega
    obtain ⟨u, q4⟩ := he j (by omega)
    have q5 := (List.getElem?_eq_some_iff.1 q4).1
    have hw := wrap_nat (n := j) (by omega)
    have st := can3_set X Y (.txt nn cap es ts rest) rfl (es.set j [.int .i32 (-1)])
    have ns : NSt3 (can3 X Y (RZ.X (.txt nn cap (es.set j [.int .i32 (-1)]) ts rest))) 2 0 X Y (RZ.X (.txt nn cap (es.set j [.int .i32 (-1)]) ts rest)) := can3_st hxh (rz_ok _)
    simp only [RZ.we] at st
    rw [← st] at ns
    obtain ⟨es', k1, ih⟩ := ih (j + 1) (by omega) (es.set j [.int .i32 (-1)]) (ones_set he j _) 2 0 _ ns
    refine ⟨es', k1, ?_⟩
    rw [lp_law11_VtPlays_4] at ih
    rw [lp_law11_VtPlays_4, y_loop, hg, ← ih]
    generalize hC : can3 X Y (RZ.X (.txt nn cap es ts rest)) = C
    cases hy : Y.has with
    | false =>
      have r2 : C[2]? = some ⟨6, 0, false, ([.int .i64 5, .int .i32 0, .int .i32 0, .str ⟨#[]⟩, .data false 1 [] true, .own 3 0 0 nn cap] :: actG rest)⟩ := by rw [← hC]; unfold can3; rw [hy]; rfl
      have r3 : C[3]? = some ⟨1, 0, true, es⟩ := by rw [← hC]; unfold can3; rw [hy]; rfl
      have q2 := (List.getElem?_eq_some_iff.1 r2).1
      have q3 := (List.getElem?_eq_some_iff.1 r3).1
      simp only [Bool.false_eq_true, if_false]
      (sym => simp [Qa,Qc,Qd,Qe,Qi,Qj,Qr,Qt,Q4,Q5,Xa,Xp,Xs,Xy,X5,Ya,Yg,Yr,Yt,Yv,Yx,Y9,Za,Zb,Zc,Zd,Ze,Zg,Zh,Zm,Zn,Zt,Zv,Zw,Zx,Zy,Z0,Z1,Z3,Jj,Jk,Jm,Jn,Jo,Jr,Js,Ju,Jv,J3,Hh,Hi,Hk,H8,Ni,Nk,Nl,Nm,No,Nz,Be,Bi,q5R0.eq_1,q5R1.eq_1,q5R2.eq_1,q5R3.eq_1,q5R4.eq_1,q5R5.eq_1,q5R6.eq_1,q5R7.eq_1,q5R8.eq_1,q5R10.eq_1,q5R11.eq_1,q5R13.eq_1,q5R14.eq_1,q5R15.eq_1,q5R16.eq_1,q5R17.eq_1,q5R18.eq_1,q5R12.eq_1,q5R19.eq_1,q5R20.eq_1,q5R21.eq_1,q5R22.eq_1,q5R23.eq_1,q5R24.eq_1,q5R25.eq_1,q5R27.eq_1,q5R28.eq_1,q5R30.eq_1,q5R29.eq_1,q5R31.eq_1,q5R32.eq_1,q5R34.eq_1,q5R33.eq_1,q5R26.eq_1,q5R9.eq_1,q5R35.eq_1,c_law11_VtPlays.eq_1,c_law11_VtPlays_L4.eq_1,q,q4,q5,hw,r2,r3,q2,q3,hn2])
    | true =>
      have r2 : C[2]? = some ⟨6, 0, false, ([.int .i64 5, .int .i32 0, .int .i32 0, .str ⟨#[]⟩, .data false 1 [] true, .own 4 0 0 nn cap] :: actG rest)⟩ := by rw [← hC]; unfold can3; rw [hy]; rfl
      have r3 : C[4]? = some ⟨1, 0, true, es⟩ := by rw [← hC]; unfold can3; rw [hy]; rfl
      have q2 := (List.getElem?_eq_some_iff.1 r2).1
      have q3 := (List.getElem?_eq_some_iff.1 r3).1
      simp only [if_true]
      (sym => simp [Qa,Qc,Qd,Qe,Qi,Qj,Qr,Qt,Q4,Q5,Xa,Xp,Xs,Xy,X5,Ya,Yg,Yr,Yt,Yv,Yx,Y9,Za,Zb,Zc,Zd,Ze,Zg,Zh,Zm,Zn,Zt,Zv,Zw,Zx,Zy,Z0,Z1,Z3,Jj,Jk,Jm,Jn,Jo,Jr,Js,Ju,Jv,J3,Hh,Hi,Hk,H8,Ni,Nk,Nl,Nm,No,Nz,Be,Bi,q5R0.eq_1,q5R1.eq_1,q5R2.eq_1,q5R3.eq_1,q5R4.eq_1,q5R5.eq_1,q5R6.eq_1,q5R7.eq_1,q5R8.eq_1,q5R10.eq_1,q5R11.eq_1,q5R13.eq_1,q5R14.eq_1,q5R15.eq_1,q5R16.eq_1,q5R17.eq_1,q5R18.eq_1,q5R12.eq_1,q5R19.eq_1,q5R20.eq_1,q5R21.eq_1,q5R22.eq_1,q5R23.eq_1,q5R24.eq_1,q5R25.eq_1,q5R27.eq_1,q5R28.eq_1,q5R30.eq_1,q5R29.eq_1,q5R31.eq_1,q5R32.eq_1,q5R34.eq_1,q5R33.eq_1,q5R26.eq_1,q5R9.eq_1,q5R35.eq_1,c_law11_VtPlays.eq_1,c_law11_VtPlays_L4.eq_1,q,q4,q5,hw,r2,r3,q2,q3,hn2])
end
section
theorem bare_at {l : List Act'} (hb : Bare l) {k : Nat} (hk : k < l.length) : ∃ a1 a2 a3 a4 pf tf, (actG l)[k]? = some [a1, a2, a3, a4, .data false 1 [] pf, .data false 1 [] tf] := by
  obtain ⟨h1, h2⟩ := hb _ (List.getElem_mem hk)
  refine ⟨.int .i64 l[k].kind, .int .i32 l[k].c, .int .i32 l[k].mark, .str l[k].inter, l[k].pf, l[k].tf, ?_⟩
  rw [actG_at hk, Act'.g, h1, h2]
  rfl
variable (G : Nat → Option (List AV)) (l cs : List Int) (f f2 : Bool) (i : Int)
theorem own_3 {X Y : RootF} (hX : X.Ok) (hY : Y.Ok) (hxh : X.has = false) (Z : RZ) (ok : Z.okL) (n k : Nat) (hn : Z.acts.length = n) (hk : k < n) (z gz : Nat) (h : List ARow) (hs : NSt3 h z gz X Y Z.X) :
    ∃ (es' : List (List AV)) (nj : Nat), Ones Z.n es' ∧ aE G FT 0 lp_law11_VtPlays_3 ⟨[(0, .data false 1 (rn l) f), (1, .data false 1 (ints cs) f2), (5, .ptr 0 0 0 0), (6, .ptr 1 0 0 0), (7, .int .i64 i), (10, .own z gz 0 n n), (11, .int .i64 k), (12, .int .i64 0)], h⟩ = some (.exit 6, ⟨[(0, .data false 1 (rn l) f), (1, .data false 1 (ints cs) f2), (5, .ptr 0 0 0 0), (6, .ptr 1 0 0 0), (7, .int .i64 i), (10, .own 2 0 0 n n), (11, .int .i64 k), (12, .int .i64 nj), (99, .bool false)], can3 X Y (Z.we es').X⟩) := by
  cases Z with
  | plain q fl =>
    obtain ⟨a1, a2, a3, a4, pf, tf, he⟩ := bare_at ok (k := k) (by have hn : q.length = n := hn; omega)
    exact ⟨[], 0, fun j hj => absurd hj (Nat.not_lt_zero _), own0_3 G l cs f f2 i n k z gz hX hY (rz_ok _) hs hk _ _ rfl _ _ _ _ _ _ he⟩
  | par c m s nn cap es ps =>
    have hn : 1 = n := hn
    subst hn
    obtain rfl : k = 0 := by omega
    obtain ⟨es', h1, h2⟩ := own3_w G l cs f f2 i c m s nn cap ps hX hY hxh ok.1 nn 0 (by omega) es ok.2 z gz h hs
    exact ⟨es', nn, h1, h2⟩
  | txt nn cap es ts rest =>
    have hn : rest.length + 1 = n := hn
    cases k with
    | zero =>
      exact ⟨es, 0, ok.2.1, own0_3 G l cs f f2 i _ 0 z gz hX hY (rz_ok _) hs (by omega) _ _ rfl _ _ _ _ _ _ rfl⟩
    | succ k =>
      obtain ⟨a1, a2, a3, a4, pf, tf, he⟩ := bare_at ok.2.2 (k := k) (by omega)
      exact ⟨es, 0, ok.2.1, own0_3 G l cs f f2 i n (k + 1) z gz hX hY (rz_ok _) hs hk _ _ rfl _ _ _ _ _ _ (by rw [List.getElem?_cons_succ]; exact he)⟩
theorem own_4 {X Y : RootF} (hX : X.Ok) (hY : Y.Ok) (hxh : X.has = false) (Z : RZ) (ok : Z.okL) (n k : Nat) (hn : Z.acts.length = n) (hk : k < n) (z gz : Nat) (h : List ARow) (hs : NSt3 h z gz X Y Z.X) :
    ∃ (es' : List (List AV)) (nj : Nat), Ones Z.n es' ∧ aE G FT 0 lp_law11_VtPlays_4 ⟨[(0, .data false 1 (rn l) f), (1, .data false 1 (ints cs) f2), (5, .ptr 0 0 0 0), (6, .ptr 1 0 0 0), (7, .int .i64 i), (10, .own z gz 0 n n), (11, .int .i64 k), (13, .int .i64 0)], h⟩ = some (.exit 8, ⟨[(0, .data false 1 (rn l) f), (1, .data false 1 (ints cs) f2), (5, .ptr 0 0 0 0), (6, .ptr 1 0 0 0), (7, .int .i64 i), (10, .own 2 0 0 n n), (11, .int .i64 k), (13, .int .i64 nj), (116, .bool false)], can3 X Y (Z.we es').X⟩) := by
  cases Z with
  | plain q fl =>
    obtain ⟨a1, a2, a3, a4, pf, tf, he⟩ := bare_at ok (k := k) (by have hn : q.length = n := hn; omega)
    exact ⟨[], 0, fun j hj => absurd hj (Nat.not_lt_zero _), own0_4 G l cs f f2 i n k z gz hX hY (rz_ok _) hs hk _ _ rfl _ _ _ _ _ _ he⟩
  | par c m s nn cap es ps =>
    have hn : 1 = n := hn
    subst hn
    obtain rfl : k = 0 := by omega
    exact ⟨es, 0, ok.2, own0_4 G l cs f f2 i _ 0 z gz hX hY (rz_ok _) hs (by omega) _ _ rfl _ _ _ _ _ _ rfl⟩
  | txt nn cap es ts rest =>
    have hn : rest.length + 1 = n := hn
    cases k with
    | zero =>
      obtain ⟨es', h1, h2⟩ := own4_w G l cs f f2 i n (by omega) nn cap ts rest hX hY hxh ok.1 nn 0 (by omega) es ok.2.1 z gz h hs
      exact ⟨es', nn, h1, h2⟩
    | succ k =>
      obtain ⟨a1, a2, a3, a4, pf, tf, he⟩ := bare_at ok.2.2 (k := k) (by omega)
      exact ⟨es, 0, ok.2.1, own0_4 G l cs f f2 i n (k + 1) z gz hX hY (rz_ok _) hs hk _ _ rfl _ _ _ _ _ _ (by rw [List.getElem?_cons_succ]; exact he)⟩
theorem own_2 {X Y : RootF} (hX : X.Ok) (hY : Y.Ok) (hxh : X.has = false) (n : Nat) (hl : n ≤ 1000000) : ∀ m k, k + m = n → ∀ (Z : RZ), Z.okL → Z.acts.length = n → ∀ (z gz : Nat) (h : List ARow), NSt3 h z gz X Y Z.X →
    ∃ Z' : RZ, aE G FT 0 lp_law11_VtPlays_2 ⟨[(0, .data false 1 (rn l) f), (1, .data false 1 (ints cs) f2), (5, .ptr 0 0 0 0), (6, .ptr 1 0 0 0), (7, .int .i64 i), (10, .own z gz 0 n n), (11, .int .i64 k)], h⟩ = some (.exit 4, ⟨[(0, .data false 1 (rn l) f), (1, .data false 1 (ints cs) f2), (5, .ptr 0 0 0 0), (6, .ptr 1 0 0 0), (7, .int .i64 i), (10, .own 2 0 0 n n), (11, .int .i64 n), (89, .bool false)], can3 X Y Z'.X⟩) := by
  intro m
  induction m with
  | zero =>
    intro k hk Z ok hn z gz h hs
    obtain rfl : n = k := by omega
    have hg := gco_2 l cs f f2 i z gz n n hX hY (rz_ok Z) hs
    have q : ¬ (n : Int) < n := by omega
    refine ⟨Z, ?_⟩
    rw [lp_law11_VtPlays_2, y_loop, hg]
    generalize can3 X Y Z.X = C
    (sym => simp [Qa,Qc,Qd,Qe,Qi,Qj,Qr,Qt,Xa,Xy,X5,Ya,Yg,Y9,Za,Zb,Zc,Ze,Zg,Zh,Zt,Zv,Zw,Z3,Jj,Jk,Jm,Jn,Jo,Jq,Jr,Js,Ju,Jv,Nl,Nm,Be,q5R0.eq_1,q5R1.eq_1,q5R2.eq_1,q5R3.eq_1,q5R4.eq_1,q5R5.eq_1,q5R6.eq_1,q5R7.eq_1,q5R8.eq_1,q5R10.eq_1,q5R11.eq_1,q5R13.eq_1,q5R14.eq_1,q5R15.eq_1,q5R16.eq_1,q5R17.eq_1,q5R18.eq_1,q5R12.eq_1,q5R19.eq_1,q5R20.eq_1,q5R21.eq_1,q5R22.eq_1,q5R23.eq_1,q5R24.eq_1,q5R25.eq_1,q5R27.eq_1,q5R28.eq_1,q5R30.eq_1,q5R29.eq_1,q5R31.eq_1,q5R32.eq_1,q5R34.eq_1,q5R33.eq_1,q5R26.eq_1,q5R9.eq_1,q5R35.eq_1,c_law11_VtPlays.eq_1,c_law11_VtPlays_L2.eq_1,q])
  | succ m ih =>
    intro k hk Z ok hn z gz h hs
    have hg := gco_2 l cs f f2 i z gz n k hX hY (rz_ok Z) hs
    have q : (k : Int) < n := by omega
    have hw := wrap_nat (n := k) (by omega)
    obtain ⟨es1, n1, o1, e3⟩ := own_3 G l cs f f2 i hX hY hxh Z ok n k hn (by omega) 2 0 _ (can3_st hxh (rz_ok Z))
    have ok1 := we_okL ok o1
    have hn1 : (Z.we es1).acts.length = n := by rw [we_acts]; exact hn
    obtain ⟨es2, n2, o2, e4⟩ := own_4 G l cs f f2 i hX hY hxh (Z.we es1) ok1 n k hn1 (by omega) 2 0 _ (can3_st hxh (rz_ok _))
    have ok2 := we_okL ok1 o2
    have hn2 : ((Z.we es1).we es2).acts.length = n := by rw [we_acts]; exact hn1
    obtain ⟨Z', ih⟩ := ih (k + 1) (by omega) ((Z.we es1).we es2) ok2 hn2 2 0 _ (can3_st hxh (rz_ok _))
    refine ⟨Z', ?_⟩
    rw [lp_law11_VtPlays_2] at ih
    rw [lp_law11_VtPlays_2, y_loop, hg, ← ih]
    generalize can3 X Y Z.X = C at e3
    generalize can3 X Y (Z.we es1).X = C1 at e3 e4
    generalize can3 X Y ((Z.we es1).we es2).X = C2 at e4
    (sym => simp [Qa,Qc,Qd,Qe,Qi,Qj,Qr,Qt,Xa,Xy,X5,Ya,Yg,Y9,Za,Zb,Zc,Ze,Zg,Zh,Zt,Zv,Zw,Z3,Jj,Jk,Jm,Jn,Jo,Jq,Jr,Js,Ju,Jv,Nl,Nm,Be,q5R0.eq_1,q5R1.eq_1,q5R2.eq_1,q5R3.eq_1,q5R4.eq_1,q5R5.eq_1,q5R6.eq_1,q5R7.eq_1,q5R8.eq_1,q5R10.eq_1,q5R11.eq_1,q5R13.eq_1,q5R14.eq_1,q5R15.eq_1,q5R16.eq_1,q5R17.eq_1,q5R18.eq_1,q5R12.eq_1,q5R19.eq_1,q5R20.eq_1,q5R21.eq_1,q5R22.eq_1,q5R23.eq_1,q5R24.eq_1,q5R25.eq_1,q5R27.eq_1,q5R28.eq_1,q5R30.eq_1,q5R29.eq_1,q5R31.eq_1,q5R32.eq_1,q5R34.eq_1,q5R33.eq_1,q5R26.eq_1,q5R9.eq_1,q5R35.eq_1,c_law11_VtPlays.eq_1,c_law11_VtPlays_L2.eq_1,q,hw,e3,e4])
end
end Go.Proofs.Ytkkcblfoaldckaa
