/- VtPlays: the document's step; the copies. Conditions: none. -/
import Derived.Test.YtkkcblfoaldckaaVw5
set_option linter.unusedVariables false
set_option linter.unusedSimpArgs false
set_option linter.unusedSectionVars false
set_option maxRecDepth 20000
set_option maxHeartbeats 4000000
namespace Go.Proofs.Ytkkcblfoaldckaa
open Go
variable (G : Nat → Option (List AV))
def RAt (h : List ARow) (p : Nat) (H : List Int) (fl : Bool) (q gq : Nat) : Prop := h[p]? = some (rF H fl q gq) ∧ (rHas H = true → q ≠ p ∧ h[q]? = some ⟨1, gq, true, rn H⟩)
theorem rput_step (H : List Int) (ok : rOk H) (c : Int) (h : List ARow) (p : Nat) (fl : Bool) (q gq : Nat) (hp : RAt h p H fl q gq) :
    ∃ b h' fl' q' gq', aiso (aR G FT) n_ref11_Parser_Put [.ptr p 0 0 0, .int .i32 c] h = some (.data false 6 (actG (rPut H c).1) b, h') ∧ RAt h' p (rPut H c).2 fl' q' gq' ∧ (rHas (rPut H c).2 = true → rHas H = true ∧ q' = q ∨ h.length ≤ q') ∧
      (∀ r, r ≠ p → (rHas H = true → r ≠ q) → r < h.length → h'[r]? = h[r]?) ∧ h.length ≤ h'.length := by
  obtain ⟨b, h1, e1, st⟩ := rput_okq G fl H ok c
  obtain ⟨fl', i, g, R, rfl, own⟩ := rstq_root st
  rw [rHeapq_eq] at e1
  obtain ⟨h', i', g', k1, k2, k3, k4, k5⟩ := iso_root (aR G FT) n_ref11_Parser_Put (.int .i32 c) rfl (fun _ _ _ _ => rfl) (rX H fl) (rX (rPut H c).2 fl') (rX_ok _ _) (rX_ok _ _) rfl rfl h p q gq hp.1 hp.2 _ (by simp [AV.ids]) (by simp [AV.clean]) (fun _ => by simp [AV.mapid]) i g R e1 own
  exact ⟨b, h', fl', i', g', k1, ⟨k2, fun e => ⟨(k3 e).1, (k3 e).2.2⟩⟩, fun e => (k3 e).2.1, k4, k5⟩
theorem copies_gc (d1 d2 : AV) (hd1 : d1.ids = []) (hd2 : d2.ids = []) (hr1 : ∀ h low off o, d1.ren h low off o = d1) (hr2 : ∀ h low off o, d2.ren h low off o = d2) (a : Nat) (i k : Int) {h : List ARow} {X Y : RootF} (hX : X.Ok) (hY : Y.Ok) (hs : NStG h a 1 X Y) :
    agc 0 [0, 1, 5, 6, 7, 8] ⟨[(0, d1), (1, d2), (5, .ptr a 0 0 0), (6, .ptr 1 0 0 0), (7, .int .i64 i), (8, .int .i64 k)], h⟩ = some ⟨[(0, d1), (1, d2), (5, .ptr 0 0 0 0), (6, .ptr 1 0 0 0), (7, .int .i64 i), (8, .int .i64 k)], canN X Y⟩ :=
  two_gc rfl (by simp [AV.idsL, AV.ids, hd1, hd2]) hX hY hs fun order r0 r1 e0 e1 g0 g1 o0 o1 => by simp [AV.ren, hr1, hr2, e0, e1, g0, g1, o0, o1]
theorem canN_own (s : VS) (fl : Bool) (H : List Int) (fl2 : Bool) : canN (vtX s fl) (rX H fl2) = vtF s fl 2 0 :: rF H fl2 (if vtHas s = true then 3 else 2) 0 :: (ownOf s ++ if rHas H = true then [⟨1, 0, true, rn H⟩] else []) := rfl
theorem canN_st (X Y : RootF) : NStG (canN X Y) 0 1 X Y := by
  refine ⟨by omega, 2, 0, if X.has = true then 3 else 2, 0, rfl, rfl, fun e => ⟨by omega, by omega, ?_⟩, fun e => ⟨by split <;> omega, by split <;> omega, ?_⟩, fun e e' => ?_⟩
  · simp [canN, e]
  · unfold canN; rw [e]; cases X.has <;> rfl
  · rw [if_pos e]; omega
/-- A copy goes on. -/
theorem copy_on (s : VS) (ok : vtOk2 s) (fl : Bool) (H : List Int) (fl2 : Bool) : ∃ n h1 v1 h2 v2 h3 v3 h4, aR G FT n_vt_Parser_Copy [.ptr 0 0 0 0] (canN (vtX s fl) (rX H fl2)) = some (.ptr n 0 0 0, h1) ∧
    aiso (aR G FT) n_vt_Parser_Put [.ptr 0 0 0 0, .int .i32 57] h1 = some (v1, h2) ∧ aiso (aR G FT) n_vt_Parser_Put [.ptr 0 0 0 0, .int .i32 59] h2 = some (v2, h3) ∧ aiso (aR G FT) n_vt_Parser_Put [.ptr 0 0 0 0, .int .i32 120] h3 = some (v3, h4) ∧ NStG h4 n 1 (vtX s true) (rX H fl2) := by
  have main : ∀ (n : Nat) (h1 : List ARow), aR G FT n_vt_Parser_Copy [.ptr 0 0 0 0] (canN (vtX s fl) (rX H fl2)) = some (.ptr n 0 0 0, h1) → PAt h1 0 s fl 2 0 → 2 ≤ n → (vtHas s = true → n ≠ 2) → NStG h1 n 1 (vtX s true) (rX H fl2) →
      (∃ j, h1[1]? = some (rF H fl2 j 0) ∧ (rHas H = true → 2 ≤ j ∧ (vtHas s = true → j ≠ 2) ∧ j ≠ n ∧ j ≠ n + 1 ∧ h1[j]? = some ⟨1, 0, true, rn H⟩)) → h1[n]? = some (vtF s true (n + 1) 0) → (vtHas s = true → h1[n + 1]? = some ⟨1, 0, true, vtEs s⟩) →
      ∃ n h1 v1 h2 v2 h3 v3 h4, aR G FT n_vt_Parser_Copy [.ptr 0 0 0 0] (canN (vtX s fl) (rX H fl2)) = some (.ptr n 0 0 0, h1) ∧
        aiso (aR G FT) n_vt_Parser_Put [.ptr 0 0 0 0, .int .i32 57] h1 = some (v1, h2) ∧ aiso (aR G FT) n_vt_Parser_Put [.ptr 0 0 0 0, .int .i32 59] h2 = some (v2, h3) ∧ aiso (aR G FT) n_vt_Parser_Put [.ptr 0 0 0 0, .int .i32 120] h3 = some (v3, h4) ∧ NStG h4 n 1 (vtX s true) (rX H fl2) := by
    intro n h1 e hp hn hn2 _ ⟨j, hy, hj⟩ hn3 hn4
    obtain ⟨v1, h2, v2, h3, v3, h4, a1, a2, a3, fr⟩ := put_three G s ok 57 59 120 h1 0 fl 2 0 hp
    refine ⟨n, h1, v1, h2, v2, h3, v3, h4, e, a1, a2, a3, by omega, n + 1, 0, j, 0, ?_, ?_, fun e => ⟨by omega, by omega, ?_⟩, fun e => ?_, fun e e' => ?_⟩
    · rw [fr n (by omega) hn2 (List.getElem?_eq_some_iff.1 hn3).1]; exact hn3
    · rw [fr 1 (by omega) (fun _ => by omega) (List.getElem?_eq_some_iff.1 hy).1]; exact hy
    · have := hn4 e
      rw [fr (n + 1) (by omega) (fun _ => by omega) (List.getElem?_eq_some_iff.1 this).1]; exact this
    · obtain ⟨j1, j2, j3, j4, j5⟩ := hj e
      refine ⟨j3, by omega, ?_⟩
      rw [fr j (by omega) j2 (List.getElem?_eq_some_iff.1 j5).1]; exact j5
    · exact fun e2 => (hj e').2.2.2.1 e2.symm
  have ol : (ownOf s).length = if vtHas s = true then 1 else 0 := by unfold ownOf; split <;> rfl
  cases H with
  | nil =>
    have e := copy_one G s ok fl (rF [] fl2 (if vtHas s = true then 3 else 2) 0)
    have ce := canN_own s fl [] fl2
    simp only [rHas, Bool.false_eq_true, if_false, List.append_nil] at ce
    cases hs : vtHas s with
    | false =>
      have o0 : ownOf s = [] := by unfold ownOf; rw [hs]; rfl
      simp only [o0, hs, List.length_nil, List.nil_append, Bool.false_eq_true, if_false] at e ce
      exact main _ _ (by rw [ce]; exact e) ⟨rfl, fun e => by rw [hs] at e; cases e⟩ (by omega) (fun e => by rw [hs] at e; cases e) ⟨by omega, 3, 0, 2, 0, rfl, rfl, fun e => by (have e : vtHas s = true := e; rw [hs] at e; cases e), fun e => (by cases e), fun _ e => (by cases e)⟩ ⟨2, rfl, fun e => (by cases e)⟩ rfl (fun e => by rw [hs] at e; cases e)
    | true =>
      have o0 : ownOf s = [⟨1, 0, true, vtEs s⟩] := by unfold ownOf; rw [hs]; rfl
      simp only [o0, hs, List.length_cons, List.length_nil, List.cons_append, List.nil_append, if_true] at e ce
      exact main _ _ (by rw [ce]; exact e) ⟨rfl, fun _ => ⟨by omega, rfl⟩⟩ (by omega) (fun _ => by omega) ⟨by omega, 4, 0, 3, 0, rfl, rfl, fun _ => ⟨by omega, by omega, rfl⟩, fun e => (by cases e), fun _ e => (by cases e)⟩ ⟨3, rfl, fun e => (by cases e)⟩ rfl (fun _ => rfl)
  | cons x T =>
    have e := copy_two G s ok fl (rF (x :: T) fl2 (if vtHas s = true then 3 else 2) 0) ⟨1, 0, true, rn (x :: T)⟩
    have ce := canN_own s fl (x :: T) fl2
    simp only [rHas, if_true] at ce
    cases hs : vtHas s with
    | false =>
      have o0 : ownOf s = [] := by unfold ownOf; rw [hs]; rfl
      simp only [o0, hs, List.length_nil, List.nil_append, Bool.false_eq_true, if_false] at e ce
      exact main _ _ (by rw [ce]; exact e) ⟨rfl, fun e => by rw [hs] at e; cases e⟩ (by omega) (fun e => by rw [hs] at e; cases e) ⟨by omega, 4, 0, 2, 0, rfl, rfl, fun e => by (have e : vtHas s = true := e; rw [hs] at e; cases e), fun _ => ⟨by omega, by omega, rfl⟩, fun e => by (have e : vtHas s = true := e; rw [hs] at e; cases e)⟩ ⟨2, rfl, fun _ => ⟨by omega, fun e => (by rw [hs] at e; cases e), by omega, by omega, rfl⟩⟩ rfl (fun e => by rw [hs] at e; cases e)
    | true =>
      have o0 : ownOf s = [⟨1, 0, true, vtEs s⟩] := by unfold ownOf; rw [hs]; rfl
      simp only [o0, hs, List.length_cons, List.length_nil, List.cons_append, List.nil_append, if_true] at e ce
      exact main _ _ (by rw [ce]; exact e) ⟨rfl, fun _ => ⟨by omega, rfl⟩⟩ (by omega) (fun _ => by omega) ⟨by omega, 5, 0, 3, 0, rfl, rfl, fun _ => ⟨by omega, by omega, rfl⟩, fun _ => ⟨by omega, by omega, rfl⟩, fun _ _ => by omega⟩ ⟨3, rfl, fun _ => ⟨by omega, fun _ => by omega, by omega, by omega, rfl⟩⟩ rfl (fun _ => rfl)
theorem plays_copies (l cs : List Int) (f f2 : Bool) (hl : cs.length ≤ 20) (i : Int) (H : List Int) (fl2 : Bool) (s : VS) (ok : vtOk2 s) : ∀ m k, k + m = cs.length → ∀ (fl : Bool) (a : Nat) (h : List ARow), NStG h a 1 (vtX s fl) (rX H fl2) →
    ∃ fl', aE G FT 0 lp_law11_VtPlays_1 ⟨[(0, .data false 1 (rn l) f), (1, .data false 1 (ints cs) f2), (5, .ptr a 0 0 0), (6, .ptr 1 0 0 0), (7, .int .i64 i), (8, .int .i64 k)], h⟩ =
      some (.exit 2, ⟨[(0, .data false 1 (rn l) f), (1, .data false 1 (ints cs) f2), (5, .ptr 0 0 0 0), (6, .ptr 1 0 0 0), (7, .int .i64 i), (8, .int .i64 cs.length), (36, .bool false)], canN (vtX s fl') (rX H fl2)⟩) := by
  intro m
  have il := ints_len cs
  induction m with
  | zero =>
    intro k hk fl a h hs
    obtain rfl : k = cs.length := by omega
    have hg := copies_gc (.data false 1 (rn l) f) (.data false 1 (ints cs) f2) (by simp [AV.ids]) (by simp [AV.ids]) (fun _ _ _ _ => by simp [AV.ren]) (fun _ _ _ _ => by simp [AV.ren]) a i cs.length (vtX_ok s fl) (rX_ok H fl2) hs
    have h4 : ¬ (cs.length : Int) < cs.length := by omega
    refine ⟨fl, ?_⟩
    rw [lp_law11_VtPlays_1, y_loop, hg]
    (sym => simp [Qa,Qc,Qd,Qe,Qf,Qg,Qi,Qj,Qm,Qn,Qo,Qr,Qt,Qu,Q4,Xa,Xc,Xs,Xy,X5,X8,Ya,Yh,Ys,Yt,Yy,Y9,Za,Zb,Zc,Ze,Zg,Zh,Zq,Zt,Zv,Zw,Z3,Ja,Jg,Jj,Jk,Jm,Jn,Jo,Jr,Js,Ju,Jv,Kr,Hh,Ni,Nk,Nl,Nm,Nx,Be,q5R0.eq_1,q5R1.eq_1,q5R2.eq_1,q5R3.eq_1,q5R4.eq_1,q5R5.eq_1,q5R6.eq_1,q5R7.eq_1,q5R8.eq_1,q5R10.eq_1,q5R11.eq_1,q5R13.eq_1,q5R14.eq_1,q5R15.eq_1,q5R16.eq_1,q5R17.eq_1,q5R18.eq_1,q5R12.eq_1,q5R19.eq_1,q5R20.eq_1,q5R21.eq_1,q5R22.eq_1,q5R23.eq_1,q5R24.eq_1,q5R25.eq_1,q5R27.eq_1,q5R28.eq_1,q5R30.eq_1,q5R29.eq_1,q5R31.eq_1,q5R32.eq_1,q5R34.eq_1,q5R33.eq_1,q5R26.eq_1,q5R9.eq_1,q5R35.eq_1,c_law11_VtPlays.eq_1,c_law11_VtPlays_L1.eq_1,h4,il])
  | succ m ih =>
    intro k hk fl a h hs
    have hn : k < cs.length := by omega
    have hg := copies_gc (.data false 1 (rn l) f) (.data false 1 (ints cs) f2) (by simp [AV.ids]) (by simp [AV.ids]) (fun _ _ _ _ => by simp [AV.ren]) (fun _ _ _ _ => by simp [AV.ren]) a i k (vtX_ok s fl) (rX_ok H fl2) hs
    have q1 : (k : Int) < cs.length := by omega
    have a1 := ints_at hn
    have hw := wrap_nat (n := k) (by omega)
    have hci := acall_iso (G := G) (F := FT)
    by_cases hc : cs[k] = i
    · obtain ⟨n, h1, v1, h2, v2, h3, v3, h4, e0, e1, e2, e3, ns⟩ := copy_on G s ok fl H fl2
      obtain ⟨fl', ih⟩ := ih (k + 1) (by omega) true n h4 ns
      refine ⟨fl', ?_⟩
      rw [lp_law11_VtPlays_1] at ih
      rw [lp_law11_VtPlays_1, y_loop, hg, ← ih]
      have hx := canN_own s fl H fl2
      have r0 : (canN (vtX s fl) (rX H fl2))[0]? = some (vtF s fl 2 0) := rfl
      (sym => simp [Qa,Qc,Qd,Qe,Qf,Qg,Qi,Qj,Qm,Qn,Qo,Qr,Qt,Qu,Q4,Xa,Xc,Xs,Xy,X5,X8,Ya,Yh,Ys,Yt,Yy,Y9,Za,Zb,Zc,Ze,Zg,Zh,Zq,Zt,Zv,Zw,Z3,Ja,Jg,Jj,Jk,Jm,Jn,Jo,Jr,Js,Ju,Jv,Kr,Hh,Ni,Nk,Nl,Nm,Nx,Be,q5R0.eq_1,q5R1.eq_1,q5R2.eq_1,q5R3.eq_1,q5R4.eq_1,q5R5.eq_1,q5R6.eq_1,q5R7.eq_1,q5R8.eq_1,q5R10.eq_1,q5R11.eq_1,q5R13.eq_1,q5R14.eq_1,q5R15.eq_1,q5R16.eq_1,q5R17.eq_1,q5R18.eq_1,q5R12.eq_1,q5R19.eq_1,q5R20.eq_1,q5R21.eq_1,q5R22.eq_1,q5R23.eq_1,q5R24.eq_1,q5R25.eq_1,q5R27.eq_1,q5R28.eq_1,q5R30.eq_1,q5R29.eq_1,q5R31.eq_1,q5R32.eq_1,q5R34.eq_1,q5R33.eq_1,q5R26.eq_1,q5R9.eq_1,q5R35.eq_1,c_law11_VtPlays.eq_1,c_law11_VtPlays_L1.eq_1,q1,il,hw,a1,hc,hci,e0,e1,e2,e3])
    · obtain ⟨fl', ih⟩ := ih (k + 1) (by omega) fl 0 (canN (vtX s fl) (rX H fl2)) (canN_st _ _)
      refine ⟨fl', ?_⟩
      rw [lp_law11_VtPlays_1] at ih
      rw [lp_law11_VtPlays_1, y_loop, hg, ← ih]
      (sym => simp [Qa,Qc,Qd,Qe,Qf,Qg,Qi,Qj,Qm,Qn,Qo,Qr,Qt,Qu,Q4,Xa,Xc,Xs,Xy,X5,X8,Ya,Yh,Ys,Yt,Yy,Y9,Za,Zb,Zc,Ze,Zg,Zh,Zq,Zt,Zv,Zw,Z3,Ja,Jg,Jj,Jk,Jm,Jn,Jo,Jr,Js,Ju,Jv,Kr,Hh,Ni,Nk,Nl,Nm,Nx,Be,q5R0.eq_1,q5R1.eq_1,q5R2.eq_1,q5R3.eq_1,q5R4.eq_1,q5R5.eq_1,q5R6.eq_1,q5R7.eq_1,q5R8.eq_1,q5R10.eq_1,q5R11.eq_1,q5R13.eq_1,q5R14.eq_1,q5R15.eq_1,q5R16.eq_1,q5R17.eq_1,q5R18.eq_1,q5R12.eq_1,q5R19.eq_1,q5R20.eq_1,q5R21.eq_1,q5R22.eq_1,q5R23.eq_1,q5R24.eq_1,q5R25.eq_1,q5R27.eq_1,q5R28.eq_1,q5R30.eq_1,q5R29.eq_1,q5R31.eq_1,q5R32.eq_1,q5R34.eq_1,q5R33.eq_1,q5R26.eq_1,q5R9.eq_1,q5R35.eq_1,c_law11_VtPlays.eq_1,c_law11_VtPlays_L1.eq_1,q1,il,hw,a1,hc])
end Go.Proofs.Ytkkcblfoaldckaa
