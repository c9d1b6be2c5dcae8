/- VtPlays: what was told, read deep. VtPlays: the law. VtPlays: the loop; the law. Conditions: as the statements say. -/
import Derived.Test.YtkkcblfoaldckaaVwK
import Derived.Test.YtkkcblfoaldckaaVrC
set_option linter.unusedVariables false
set_option linter.unusedSimpArgs false
set_option linter.unusedSectionVars false
set_option maxRecDepth 20000
set_option maxHeartbeats 4000000
namespace Go.Proofs.Ytkkcblfoaldckaa
open Go
section
theorem dv_g (h : List ARow) (n : Nat) (a : Act') : dvL (dv h (n + 1)) a.g = some (a.g, []) := by simp [Act'.g, dvL, dv, AV.stable]
theorem dv_acts (h : List ARow) (n : Nat) : ∀ l : List Act', dvLL (dv h (n + 1)) (actG l) = some (actG l, [])
  | [] => rfl
  | a :: l => by
    rw [show actG (a :: l) = a.g :: actG l from rfl, dvLL, dv_g, dv_acts h n l]
    rfl
theorem dv_res {h : List ARow} {Z : RZ} {z gz t gt : Nat} (ok : Z.ok) (hz : h[z]? = some { Z.f t gt with gen := gz }) (ht : Z.has = true → h[t]? = some ⟨1, gt, true, Z.es⟩) (n : Nat) (hn : Z.acts.length = n) :
    ∃ ids, dv h 8 (.own z gz 0 n n) = some (.data false 6 (actG Z.acts) false, ids) := by
  subst hn
  cases Z with
  | plain l fl =>
    have e : (actG l).length = l.length := actG_len l
    cases fl with
    | true => exact ⟨[z], by simp [dv, hz, RZ.f, RZ.acts, e, List.take_of_length_le]⟩
    | false =>
      have := dv_acts h 6 l
      refine ⟨[z], ?_⟩
      have et : (actG l).take l.length = actG l := List.take_of_length_le (by rw [e]; exact Nat.le_refl _)
      rw [dv, hz]
      simp [RZ.f, RZ.acts, e, et, this]
  | par c m s n cap es ps =>
    have h2 := ht rfl
    obtain ⟨h3, h4⟩ := ok
    refine ⟨[z, t], ?_⟩
    rw [dv, hz]
    simp [RZ.f, RZ.acts, dvLL, dvL, dv, h2, h3, AV.stable, RZ.es, actG, Act'.g, csiA, h4, rn]
  | txt n cap es ts rest =>
    have h2 := ht rfl
    obtain ⟨h3, h4, _⟩ := ok
    have := dv_acts h 6 rest
    have e : (actG rest).length = rest.length := actG_len rest
    have et : (actG rest).take rest.length = actG rest := List.take_of_length_le (by rw [e]; exact Nat.le_refl _)
    refine ⟨[z, t], ?_⟩
    rw [dv, hz]
    simp [RZ.f, RZ.acts, dvLL, dvL, dv, h2, h3, AV.stable, RZ.es, e, et, this, show actG (oscT ts :: rest) = (oscT ts).g :: actG rest from rfl, Act'.g, oscT, h4, ints]
    simp [actG, Act'.g, ints, h4]
variable (G : Nat → Option (List AV))
theorem freeze_bool {h : List ARow} {v : AV} {b : Bool} (e : afreeze h v = some (.bool b)) : v = .bool b := by
  cases v with
  | bool c => simpa [afreeze] using e
  | own id g s l c =>
    simp only [afreeze] at e
    obtain ⟨r, _, e⟩ := opt_bind_some.1 e
    split at e <;> cases e
  | agg cs => simp only [afreeze] at e; obtain ⟨x, _, e⟩ := opt_map_some.1 e; cases e
  | tup cs => simp only [afreeze] at e; obtain ⟨x, _, e⟩ := opt_map_some.1 e; cases e
  | data bo k es fu => cases bo <;> simp [afreeze] at e
  | _ => simp [afreeze] at e
theorem all_pk {h : List ARow} {v : AV} {acts : List Act'} (b2 : Bool) (hl : acts.length ≤ 1000000) (ha : ∀ a ∈ acts, a.ps.length ≤ 1000000 ∧ a.ts.length ≤ 1000000) (hv : ∃ b ids, dv h 8 v = some (.data false 6 (actG acts) b, ids)) :
    acall (aR G FT) .pk n_ref11_All [v, .data false 6 (actG acts) b2] h = some (.bool true, h) := by
  obtain ⟨b, ids, hv⟩ := hv
  have e := all_P G acts b b2 hl ha
  unfold aP at e
  obtain ⟨⟨r, h'⟩, e1, e2⟩ := opt_bind_some.1 e
  have e3 := freeze_bool e2
  simp only at e3
  subst e3
  show apeek _ _ _ _ = _
  unfold apeek
  have e4 : dvL (dv h 8) [v, .data false 6 (actG acts) b2] = some ([.data false 6 (actG acts) b, .data false 6 (actG acts) b2], ids) := by
    simp [dvL, hv, dv, AV.stable]
  rw [e4]
  simp only [Option.bind_some, e1]
  rfl
end
section
def vtIdle : VS → Bool
  | .nil => true
  | _ => false
variable (G : Nat → Option (List AV))
theorem idle_at (h : List ARow) (s : VS) (fl : Bool) (i g : Nat) (h0 : h[0]? = some (vtF s fl i g)) : aR G FT n_vt_Parser_Idle [.ptr 0 0 0 0] h = some (.bool (vtIdle s), h) := by
  rw [run_vt_Parser_Idle]
  cases s <;> simp only [vtF] at h0 <;> simp only [vtIdle] <;> (sym => simp [Qb,Qd,Qe,Qf,Qg,Qi,Qj,Qr,Qt,Qu,Q4,Q6,Q9,Xc,Xp,Yr,Yt,Yv,Y1,Y5,Y7,Y9,Za,Zb,Zc,Ze,Zg,Zh,Zi,Zj,Zk,Zl,Zr,Zs,Zt,Zu,Zv,Zw,Zy,Z0,Z3,Jb,Jh,Jj,Jk,Jv,Jx,Ko,Kq,Kr,Hh,Nx,Be,q23R0.eq_1,q23R1.eq_1,c_vt_Parser_Idle.eq_1,h0])
theorem sim_idle {H : List Int} {s : VS} (h : Sim H s) : vtIdle s = decide (H.length = 0) := by
  cases s with
  | nil => cases h; rfl
  | esc => obtain ⟨I, rfl, _⟩ := h; simp [vtIdle]
  | seq0 => obtain ⟨I, rfl, _⟩ := h; simp [vtIdle]
  | seq1 => obtain ⟨I, rfl, _⟩ := h; simp [vtIdle]
  | txt0 => obtain ⟨I, rfl, _⟩ := h; simp [vtIdle]
  | txt1 => obtain ⟨I, T, rfl, _⟩ := h; simp [vtIdle]
/-- One point, told by both. -/
theorem both_step (s : VS) (ok : vtOk2 s) (H : List Int) (rok : rOk H) (sim : Sim H s) (c : Int) (fl fl2 : Bool) :
    ∃ v h1 b2 h2 f1 f2, aiso (aR G FT) n_vt_Parser_Put [.ptr 0 0 0 0, .int .i32 c] (canN (vtX s fl) (rX H fl2)) = some (v, h1) ∧ aiso (aR G FT) n_ref11_Parser_Put [.ptr 1 0 0 0, .int .i32 c] h1 = some (.data false 6 (actG (vtPut s c).1) b2, h2) ∧
      acall (aR G FT) .pk n_ref11_All [v, .data false 6 (actG (vtPut s c).1) b2] h2 = some (.bool true, h2) ∧ NStG h2 0 1 (vtX (vtPut s c).2 f1) (rX (rPut H c).2 f2) ∧
      ((∃ b, v = .data false 6 (actG (vtPut s c).1) b ∧ Bare (vtPut s c).1) ∨ ∃ (Z : RZ) (z gz : Nat), v = .own z gz 0 (vtPut s c).1.length (vtPut s c).1.length ∧ Z.okL ∧ Z.acts = (vtPut s c).1 ∧ vtHas (vtPut s c).2 = false ∧ NSt3 h2 z gz (vtX (vtPut s c).2 f1) (rX (rPut H c).2 f2) Z.X) := by
  have hc := put_count s c
  have lim := fun a h => lim_lens (put_lim s ok c a h)
  obtain ⟨sm1, sm2⟩ := sim_put sim c
  have cl : (canN (vtX s fl) (rX H fl2)).length = 2 + (if vtHas s = true then 1 else 0) + if rHas H = true then 1 else 0 := by
    have hif : ∀ (b : Bool) (x : ARow), (if b = true then [x] else []).length = if b = true then 1 else 0 := fun b x => by cases b <;> rfl
    simp only [canN, List.length_cons, List.length_append, hif]
    omega
  have pa : PAt (canN (vtX s fl) (rX H fl2)) 0 s fl 2 0 := ⟨rfl, fun e => ⟨by omega, by simp [canN, e]⟩⟩
  have j2 : 2 ≤ (if vtHas s = true then 3 else 2) := by split <;> omega
  generalize hj : (if vtHas s = true then 3 else 2) = j at j2
  have j3 : vtHas s = true → j = 3 := fun e => by rw [← hj, if_pos e]
  have jl : rHas H = true → j < (canN (vtX s fl) (rX H fl2)).length := fun e => by rw [cl, if_pos e, ← hj]; split <;> omega
  have ra : RAt (canN (vtX s fl) (rX H fl2)) 1 H fl2 j 0 := ⟨by rw [← hj]; rfl, fun e => ⟨by omega, by rw [← hj, canN_own]; unfold ownOf; by_cases e2 : vtHas s = true <;> simp [e, e2]⟩⟩
  obtain ⟨v, h1, f1, q1, g1, e1, p1, p2, p3, p4, res⟩ := put_step G s ok c _ 0 fl 2 0 pa
  generalize canN (vtX s fl) (rX H fl2) = C at *
  have ra1 : RAt h1 1 H fl2 j 0 := ⟨by rw [p3 1 (by omega) (fun _ => by omega) (by rw [cl]; omega)]; exact ra.1, fun e => ⟨by omega, by rw [p3 j (by omega) (fun e2 => by rw [j3 e2]; omega) (jl e)]; exact (ra.2 e).2⟩⟩
  obtain ⟨b2, h2, f2, q2, g2, e2, r1, r2, r3, r4⟩ := rput_step G H rok c h1 1 fl2 j 0 ra1
  rw [sm1] at e2
  have c2 : 2 ≤ C.length := by rw [cl]; omega
  have own : vtHas (vtPut s c).2 = true → q1 ≠ 1 ∧ (rHas H = true → q1 ≠ j) ∧ q1 < h1.length := fun e => by
    have l := (List.getElem?_eq_some_iff.1 (p1.2 e).2).1
    rcases p2 e with ⟨w1, rfl⟩ | w
    · exact ⟨by omega, fun _ => by rw [j3 w1]; omega, l⟩
    · exact ⟨by omega, fun e' => by have := jl e'; omega, l⟩
  have qq : rHas (rPut H c).2 = true → q2 ≠ 0 ∧ (∀ x, x < h1.length → (rHas H = true → x ≠ j) → q2 ≠ x) := fun e => by
    rcases r2 e with ⟨w1, rfl⟩ | w
    · exact ⟨by omega, fun x _ hx => fun e' => hx w1 e'.symm⟩
    · exact ⟨by omega, fun x hx _ => by omega⟩
  have ns : NStG h2 0 1 (vtX (vtPut s c).2 f1) (rX (rPut H c).2 f2) := by
    refine ⟨by omega, q1, g1, q2, g2, ?_, r1.1, fun e => ?_, fun e => ?_, fun e e' => ?_⟩
    · rw [r3 0 (by omega) (fun _ => by omega) (List.getElem?_eq_some_iff.1 p1.1).1]; exact p1.1
    · obtain ⟨o1, o2, o3⟩ := own e
      exact ⟨(p1.2 e).1, o1, by rw [r3 q1 o1 o2 o3]; exact (p1.2 e).2⟩
    · exact ⟨(qq e).1, (r1.2 e).1, (r1.2 e).2⟩
    · obtain ⟨o1, o2, o3⟩ := own e
      exact fun h => (qq e').2 q1 o3 o2 h.symm
  rcases res with ⟨b, rfl, bare⟩ | ⟨Z, z, gz, t, gt, rfl, z1, z2, z3, z4, z5, z6⟩
  · exact ⟨_, h1, b2, h2, f1, f2, e1, e2, all_pk G b2 (by omega) lim ⟨b, [], by simp [dv, AV.stable]⟩, ns, .inl ⟨b, rfl, bare⟩⟩
  · have zl := (List.getElem?_eq_some_iff.1 z1).1
    have zj : rHas H = true → z ≠ j := fun e => by have := jl e; omega
    have z1' : h2[z]? = some { Z.f t gt with gen := gz } := by rw [r3 z (by omega) zj zl]; exact z1
    have tt : Z.has = true → 2 ≤ t ∧ t ≠ z ∧ (rHas H = true → t ≠ j) ∧ t < h1.length ∧ h2[t]? = some ⟨1, gt, true, Z.es⟩ := fun e => by
      obtain ⟨w1, w2, w3⟩ := z3 e
      have tl := (List.getElem?_eq_some_iff.1 w3).1
      have tj : rHas H = true → t ≠ j := fun e' => by
        rcases w1 with ⟨w1, rfl⟩ | w1
        · rw [j3 w1]; omega
        · have := jl e'; omega
      have t2 : 2 ≤ t := by
        rcases w1 with ⟨w1, rfl⟩ | w1 <;> omega
      exact ⟨t2, w2, tj, tl, by rw [r3 t (by omega) tj tl]; exact w3⟩
    obtain ⟨ids, hdv⟩ := dv_res (h := h2) z5 z1' (fun e => (tt e).2.2.2.2) _ rfl
    rw [z4] at hdv
    refine ⟨_, h1, b2, h2, f1, f2, e1, e2, all_pk G b2 (by omega) lim ⟨false, ids, hdv⟩, ns, .inr ⟨Z, z, gz, rfl, rz_okL z5 (by rw [z4]; exact lim), z4, z6, by omega, q1, g1, q2, g2, t, gt, ?_, r1.1, z1', z6, fun e => ⟨?_, (qq e).2 z zl zj, (r1.2 e).2⟩, fun e => ⟨(tt e).1, (tt e).2.1, (tt e).2.2.2.2⟩, fun e e' => (qq e).2 t (tt e').2.2.2.1 (tt e').2.2.1⟩⟩
    · obtain ⟨_, i', _, _, _, w, _⟩ := ns
      rw [r3 0 (by omega) (fun _ => by omega) (List.getElem?_eq_some_iff.1 p1.1).1]; exact p1.1
    · have := (qq e).1
      have := (r1.2 e).1
      omega
end
section
variable (G : Nat → Option (List AV))
theorem plays_gc (d1 d2 : AV) (hd1 : d1.ids = []) (hd2 : d2.ids = []) (hr1 : ∀ h low off o, d1.ren h low off o = d1) (hr2 : ∀ h low off o, d2.ren h low off o = d2) (i : Int) {h : List ARow} {X Y : RootF} (hX : X.Ok) (hY : Y.Ok) (hs : NStG h 0 1 X Y) :
    agc 0 [0, 1, 5, 6, 7] ⟨[(0, d1), (1, d2), (5, .ptr 0 0 0 0), (6, .ptr 1 0 0 0), (7, .int .i64 i)], h⟩ = some ⟨[(0, d1), (1, d2), (5, .ptr 0 0 0 0), (6, .ptr 1 0 0 0), (7, .int .i64 i)], canN X Y⟩ :=
  two_gc rfl (by simp [AV.idsL, AV.ids, hd1, hd2]) hX hY hs fun order r0 r1 e0 e1 g0 g1 o0 o1 => by simp [AV.ren, hr1, hr2, e0, e1, g0, g1, o0, o1]
theorem plays_loop (l cs : List Int) (f f2 : Bool) (hl : l.length ≤ 1000) (hcs : cs.length ≤ 20) : ∀ m i, i + m = l.length → ∀ (s : VS) (H : List Int) (fl fl2 : Bool) (h : List ARow), vtOk2 s → rInv i H → Sim H s → NStG h 0 1 (vtX s fl) (rX H fl2) →
    ∃ R, aE G FT 0 lp_law11_VtPlays_0 ⟨[(0, .data false 1 (rn l) f), (1, .data false 1 (ints cs) f2), (5, .ptr 0 0 0 0), (6, .ptr 1 0 0 0), (7, .int .i64 i)], h⟩ =
      some (.exit 0, ⟨[(0, .data false 1 (rn l) f), (1, .data false 1 (ints cs) f2), (5, .ptr 0 0 0 0), (6, .ptr 1 0 0 0), (7, .int .i64 l.length), (30, .bool false)], R⟩) := by
  intro m
  have rl := rn_len l
  induction m with
  | zero =>
    intro i hi s H fl fl2 h ok inv sim hs
    obtain rfl : i = l.length := by omega
    have hg := plays_gc (.data false 1 (rn l) f) (.data false 1 (ints cs) f2) (by simp [AV.ids]) (by simp [AV.ids]) (fun _ _ _ _ => by simp [AV.ren]) (fun _ _ _ _ => by simp [AV.ren]) l.length (vtX_ok s fl) (rX_ok H fl2) hs
    have h4 : ¬ (l.length : Int) < l.length := by omega
    refine ⟨canN (vtX s fl) (rX H fl2), ?_⟩
    rw [lp_law11_VtPlays_0, y_loop, hg]
    (sym => simp [Qa,Qc,Qd,Qe,Qg,Qi,Qj,Qm,Qn,Qo,Qr,Qt,Qu,Q4,Q6,Q9,Xa,Xb,Xc,Xd,Xp,Xs,Xy,X5,X8,Ya,Yg,Yh,Yr,Ys,Yt,Yv,Yy,Y9,Za,Zb,Zc,Ze,Zg,Zh,Zm,Zq,Zt,Zv,Zw,Zy,Z0,Z3,Ja,Jb,Jg,Jh,Jj,Jk,Jm,Jn,Jo,Jq,Jr,Js,Ju,Jv,Ki,Kn,Kr,Us,U0,Hh,Hi,Hu,Hv,Hy,Hz,Ne,Ni,Nk,Nl,Nm,No,Nw,Nx,Be,Bh,BD,BE,BF,BG,BH,BI,BJ,BK,BL,BM,BN,BO,BP,BR,BT,BY,q5R0.eq_1,q5R1.eq_1,q5R2.eq_1,q5R3.eq_1,q5R4.eq_1,q5R5.eq_1,q5R6.eq_1,q5R7.eq_1,q5R8.eq_1,q5R10.eq_1,q5R11.eq_1,q5R13.eq_1,q5R14.eq_1,q5R15.eq_1,q5R16.eq_1,q5R17.eq_1,q5R18.eq_1,q5R12.eq_1,q5R19.eq_1,q5R20.eq_1,q5R21.eq_1,q5R22.eq_1,q5R23.eq_1,q5R24.eq_1,q5R25.eq_1,q5R27.eq_1,q5R28.eq_1,q5R30.eq_1,q5R29.eq_1,q5R31.eq_1,q5R32.eq_1,q5R34.eq_1,q5R33.eq_1,q5R26.eq_1,q5R9.eq_1,q5R35.eq_1,c_law11_VtPlays.eq_1,c_law11_VtPlays_L0.eq_1,h4,rl])
  | succ m ih =>
    intro i hi s H fl fl2 h ok inv sim hs
    have hn : i < l.length := by omega
    have hg := plays_gc (.data false 1 (rn l) f) (.data false 1 (ints cs) f2) (by simp [AV.ids]) (by simp [AV.ids]) (fun _ _ _ _ => by simp [AV.ren]) (fun _ _ _ _ => by simp [AV.ren]) i (vtX_ok s fl) (rX_ok H fl2) hs
    obtain ⟨fl', hc1⟩ := plays_copies G l cs f f2 hcs i H fl2 s ok cs.length 0 (by omega) fl 0 (canN (vtX s fl) (rX H fl2)) (canN_st _ _)
    simp only [Int.natCast_zero] at hc1
    obtain ⟨v, h1, b2, h2, f1, f3, e1, e2, e3, ns, res⟩ := both_step G s ok H ⟨by have := inv.1; omega, inv.2⟩ sim l[i] fl' fl2
    obtain ⟨sm1, sm2⟩ := sim_put sim l[i]
    have hcnt := put_count s l[i]
    have hci := acall_iso (G := G) (F := FT)
    have hw := wrap_nat (n := i) (by omega)
    have q1 : (i : Int) < l.length := by omega
    have a1 := rn_at hn
    -- the loop over what was told
    have hL : ∃ h3 v', aE G FT 0 lp_law11_VtPlays_2 ⟨[(0, .data false 1 (rn l) f), (1, .data false 1 (ints cs) f2), (5, .ptr 0 0 0 0), (6, .ptr 1 0 0 0), (7, .int .i64 i), (10, v), (11, .int .i64 0)], h2⟩ =
        some (.exit 4, ⟨[(0, .data false 1 (rn l) f), (1, .data false 1 (ints cs) f2), (5, .ptr 0 0 0 0), (6, .ptr 1 0 0 0), (7, .int .i64 i), (10, v'), (11, .int .i64 (vtPut s l[i]).1.length), (89, .bool false)], h3⟩) ∧ NStG h3 0 1 (vtX (vtPut s l[i]).2 f1) (rX (rPut H l[i]).2 f3) := by
      rcases res with ⟨b, rfl, bare⟩ | ⟨Z, z, gz, rfl, zok, zacts, zh, ns3⟩
      · have k := datad_2 G l cs f f2 i (vtPut s l[i]).1 b bare (by omega) (vtX_ok _ _) (rX_ok _ _) (vtPut s l[i]).1.length 0 (by omega) h2 ns
        simp only [Int.natCast_zero] at k
        exact ⟨_, _, k, canN_st _ _⟩
      · obtain ⟨Z', k⟩ := own_2 G l cs f f2 i (vtX_ok _ _) (rX_ok _ _) zh (vtPut s l[i]).1.length (by omega) (vtPut s l[i]).1.length 0 (by omega) Z zok (by rw [zacts]) z gz h2 ns3
        simp only [Int.natCast_zero] at k
        exact ⟨_, _, k, can3_two zh⟩
    obtain ⟨h3, v', hL, ns3⟩ := hL
    obtain ⟨_, i', g', j', k', w0, w1, _, w2, _⟩ := ns
    have hid := idle_at G h2 _ _ _ _ w0
    rw [sim_idle sm2] at hid
    obtain ⟨R, ih⟩ := ih (i + 1) (by omega) _ _ f1 f3 h3 (put_ok2 s ok _) (rinv_put i H _ inv) sm2 ns3
    refine ⟨R, ?_⟩
    rw [lp_law11_VtPlays_0] at ih
    rw [lp_law11_VtPlays_0, y_loop, hg, ← ih]
    generalize (rPut H l[i]).2 = H' at w1 w2 hid
    cases H' with
    | nil =>
      simp only [rF] at w1
      simp only [List.length_nil, decide_true] at hid
      (sym => simp [Qa,Qc,Qd,Qe,Qg,Qi,Qj,Qm,Qn,Qo,Qr,Qt,Qu,Q4,Q6,Q9,Xa,Xb,Xc,Xd,Xp,Xs,Xy,X5,X8,Ya,Yg,Yh,Yr,Ys,Yt,Yv,Yy,Y9,Za,Zb,Zc,Ze,Zg,Zh,Zm,Zq,Zt,Zv,Zw,Zy,Z0,Z3,Ja,Jb,Jg,Jh,Jj,Jk,Jm,Jn,Jo,Jq,Jr,Js,Ju,Jv,Ki,Kn,Kr,Us,U0,Hh,Hi,Hu,Hv,Hy,Hz,Ne,Ni,Nk,Nl,Nm,No,Nw,Nx,Be,Bh,BD,BE,BF,BG,BH,BI,BJ,BK,BL,BM,BN,BO,BP,BR,BT,BY,q5R0.eq_1,q5R1.eq_1,q5R2.eq_1,q5R3.eq_1,q5R4.eq_1,q5R5.eq_1,q5R6.eq_1,q5R7.eq_1,q5R8.eq_1,q5R10.eq_1,q5R11.eq_1,q5R13.eq_1,q5R14.eq_1,q5R15.eq_1,q5R16.eq_1,q5R17.eq_1,q5R18.eq_1,q5R12.eq_1,q5R19.eq_1,q5R20.eq_1,q5R21.eq_1,q5R22.eq_1,q5R23.eq_1,q5R24.eq_1,q5R25.eq_1,q5R27.eq_1,q5R28.eq_1,q5R30.eq_1,q5R29.eq_1,q5R31.eq_1,q5R32.eq_1,q5R34.eq_1,q5R33.eq_1,q5R26.eq_1,q5R9.eq_1,q5R35.eq_1,c_law11_VtPlays.eq_1,c_law11_VtPlays_L0.eq_1,q1,hw,a1,hci,hc1,e1,e2,e3,hL,hid,w1,rl])
    | cons x T =>
      simp only [rF, List.length_cons] at w1
      have hz : decide ((x :: T).length = 0) = false := by simp
      rw [hz] at hid
      have hz2 : ¬ ((T.length + 1 : Nat) : Int) = 0 := by omega
      have w3 := (w2 rfl).2.2
      have w4 := (List.getElem?_eq_some_iff.1 w3).1
      (sym => simp [Qa,Qc,Qd,Qe,Qg,Qi,Qj,Qm,Qn,Qo,Qr,Qt,Qu,Q4,Q6,Q9,Xa,Xb,Xc,Xd,Xp,Xs,Xy,X5,X8,Ya,Yg,Yh,Yr,Ys,Yt,Yv,Yy,Y9,Za,Zb,Zc,Ze,Zg,Zh,Zm,Zq,Zt,Zv,Zw,Zy,Z0,Z3,Ja,Jb,Jg,Jh,Jj,Jk,Jm,Jn,Jo,Jq,Jr,Js,Ju,Jv,Ki,Kn,Kr,Us,U0,Hh,Hi,Hu,Hv,Hy,Hz,Ne,Ni,Nk,Nl,Nm,No,Nw,Nx,Be,Bh,BD,BE,BF,BG,BH,BI,BJ,BK,BL,BM,BN,BO,BP,BR,BT,BY,q5R0.eq_1,q5R1.eq_1,q5R2.eq_1,q5R3.eq_1,q5R4.eq_1,q5R5.eq_1,q5R6.eq_1,q5R7.eq_1,q5R8.eq_1,q5R10.eq_1,q5R11.eq_1,q5R13.eq_1,q5R14.eq_1,q5R15.eq_1,q5R16.eq_1,q5R17.eq_1,q5R18.eq_1,q5R12.eq_1,q5R19.eq_1,q5R20.eq_1,q5R21.eq_1,q5R22.eq_1,q5R23.eq_1,q5R24.eq_1,q5R25.eq_1,q5R27.eq_1,q5R28.eq_1,q5R30.eq_1,q5R29.eq_1,q5R31.eq_1,q5R32.eq_1,q5R34.eq_1,q5R33.eq_1,q5R26.eq_1,q5R9.eq_1,q5R35.eq_1,c_law11_VtPlays.eq_1,c_law11_VtPlays_L0.eq_1,q1,hw,a1,hci,hc1,e1,e2,e3,hL,hid,w1,w3,w4,rl,hz2])
theorem vtPlays_P (l cs : List Int) (f f2 : Bool) : aP G FT n_law11_VtPlays [.data false 1 (rn l) f, .data false 1 (ints cs) f2] = some (.bool true) := by
  have hK := known11_P G
  have rl := rn_len l
  have il := ints_len cs
  unfold aP
  rw [run_law11_VtPlays]
  by_cases h1 : (1000 : Int) < l.length
  · (sym => simp [Qb,Qc,Qd,Qe,Qf,Qg,Qi,Qj,Qm,Qo,Qr,Qt,Qu,Qw,Qx,Q1,Xa,Xd,Xy,Yc,Yh,Yj,Y1,Y5,Y7,Y9,Za,Zb,Zc,Ze,Zg,Zh,Zi,Zj,Zk,Zl,Zm,Zn,Zo,Zq,Zr,Zs,Zt,Zu,Zv,Zw,Z3,Jb,Jj,Jk,Jl,Jn,Jq,Jr,Jv,Jx,K8,Ue,Uf,Ug,Uh,Ui,Uj,Ul,Wd,Wk,Hu,Hv,Ne,Nl,Nm,No,Nw,Nx,Be,q5R0.eq_1,q5R1.eq_1,q5R2.eq_1,q5R3.eq_1,q5R4.eq_1,q5R5.eq_1,q5R6.eq_1,q5R7.eq_1,q5R8.eq_1,q5R10.eq_1,q5R11.eq_1,q5R13.eq_1,q5R14.eq_1,q5R15.eq_1,q5R16.eq_1,q5R17.eq_1,q5R18.eq_1,q5R12.eq_1,q5R19.eq_1,q5R20.eq_1,q5R21.eq_1,q5R22.eq_1,q5R23.eq_1,q5R24.eq_1,q5R25.eq_1,q5R27.eq_1,q5R28.eq_1,q5R30.eq_1,q5R29.eq_1,q5R31.eq_1,q5R32.eq_1,q5R34.eq_1,q5R33.eq_1,q5R26.eq_1,q5R9.eq_1,q5R35.eq_1,c_law11_VtPlays.eq_1,hK,rl,h1])
  by_cases h2 : (20 : Int) < cs.length
  · (sym => simp [Qb,Qc,Qd,Qe,Qf,Qg,Qi,Qj,Qm,Qo,Qr,Qt,Qu,Qw,Qx,Q1,Xa,Xd,Xy,Yc,Yh,Yj,Y1,Y5,Y7,Y9,Za,Zb,Zc,Ze,Zg,Zh,Zi,Zj,Zk,Zl,Zm,Zn,Zo,Zq,Zr,Zs,Zt,Zu,Zv,Zw,Z3,Jb,Jj,Jk,Jl,Jn,Jq,Jr,Jv,Jx,K8,Ue,Uf,Ug,Uh,Ui,Uj,Ul,Wd,Wk,Hu,Hv,Ne,Nl,Nm,No,Nw,Nx,Be,q5R0.eq_1,q5R1.eq_1,q5R2.eq_1,q5R3.eq_1,q5R4.eq_1,q5R5.eq_1,q5R6.eq_1,q5R7.eq_1,q5R8.eq_1,q5R10.eq_1,q5R11.eq_1,q5R13.eq_1,q5R14.eq_1,q5R15.eq_1,q5R16.eq_1,q5R17.eq_1,q5R18.eq_1,q5R12.eq_1,q5R19.eq_1,q5R20.eq_1,q5R21.eq_1,q5R22.eq_1,q5R23.eq_1,q5R24.eq_1,q5R25.eq_1,q5R27.eq_1,q5R28.eq_1,q5R30.eq_1,q5R29.eq_1,q5R31.eq_1,q5R32.eq_1,q5R34.eq_1,q5R33.eq_1,q5R26.eq_1,q5R9.eq_1,q5R35.eq_1,c_law11_VtPlays.eq_1,hK,rl,il,h1,h2])
  obtain ⟨R, k⟩ := plays_loop G l cs f f2 (by omega) (by omega) l.length 0 (by omega) .nil [] true true [⟨10, 0, true, [[.nilfn, .bool false, .bool false, .bool false, .bool false, .bool false, .int .i32 0, .str ⟨#[]⟩, .data false 1 [] true, .data false 1 [] true]]⟩, ⟨1, 0, true, [[.data false 1 [] true]]⟩] trivial ⟨by simp, fun x h => by cases h⟩ rfl
    ⟨by omega, 2, 0, 2, 0, rfl, rfl, fun e => (by cases e), fun e => (by cases e), fun e => (by cases e)⟩
  simp only [Int.natCast_zero] at k
  (sym => simp [Qb,Qc,Qd,Qe,Qf,Qg,Qi,Qj,Qm,Qo,Qr,Qt,Qu,Qw,Qx,Q1,Xa,Xd,Xy,Yc,Yh,Yj,Y1,Y5,Y7,Y9,Za,Zb,Zc,Ze,Zg,Zh,Zi,Zj,Zk,Zl,Zm,Zn,Zo,Zq,Zr,Zs,Zt,Zu,Zv,Zw,Z3,Jb,Jj,Jk,Jl,Jn,Jq,Jr,Jv,Jx,K8,Ue,Uf,Ug,Uh,Ui,Uj,Ul,Wd,Wk,Hu,Hv,Ne,Nl,Nm,No,Nw,Nx,Be,q5R0.eq_1,q5R1.eq_1,q5R2.eq_1,q5R3.eq_1,q5R4.eq_1,q5R5.eq_1,q5R6.eq_1,q5R7.eq_1,q5R8.eq_1,q5R10.eq_1,q5R11.eq_1,q5R13.eq_1,q5R14.eq_1,q5R15.eq_1,q5R16.eq_1,q5R17.eq_1,q5R18.eq_1,q5R12.eq_1,q5R19.eq_1,q5R20.eq_1,q5R21.eq_1,q5R22.eq_1,q5R23.eq_1,q5R24.eq_1,q5R25.eq_1,q5R27.eq_1,q5R28.eq_1,q5R30.eq_1,q5R29.eq_1,q5R31.eq_1,q5R32.eq_1,q5R34.eq_1,q5R33.eq_1,q5R26.eq_1,q5R9.eq_1,q5R35.eq_1,c_law11_VtPlays.eq_1,run_vt_New,q20R0.eq_1,q20R1.eq_1,c_vt_New.eq_1,hK,rl,il,h1,h2,k])
theorem law_VtPlays (a0 a1 : AV) (h0 : HasTy (.sl [.int .i32]) a0) (h1 : HasTy (.sl [.int .i64]) a1) : aP G FT n_law11_VtPlays [a0, a1] = some (.bool true) := by
  obtain ⟨l, f, rfl, _⟩ := ty_runes h0
  obtain ⟨cs, f2, rfl, _⟩ := ty_ints h1
  exact vtPlays_P G l cs f f2
end
end Go.Proofs.Ytkkcblfoaldckaa
