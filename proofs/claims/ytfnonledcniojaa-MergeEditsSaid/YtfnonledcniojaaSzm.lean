/- Queues of pieces: cells, piece, May: over any table that holds the two. Conditions: as each statement says. -/
import Derived.Test.YtfnonledcniojaaCd
import Derived.Test.YtfnonledcniojaaM3
set_option linter.unusedVariables false
set_option linter.unusedSimpArgs false
set_option linter.unusedSectionVars false
set_option maxRecDepth 20000
set_option maxHeartbeats 1000000
namespace Go.Proofs.Ytfnonledcniojaa
open Go
variable (G : Nat → Option (List AV)) (F : Nat → Option AEnt)
theorem pcs_len (q : List Pc) : (pcs q).length = q.length := by simp [pcs]
theorem pcs_at {q : List Pc} {i : Nat} (h : i < q.length) : (pcs q)[i]? = some [.int .i64 q[i].1, .int .i64 q[i].2.1, .data false 1 (byt q[i].2.2.1) q[i].2.2.2] := by simp [pcs, h, pcell]
theorem byt_len (l : List Int) : (byt l).length = l.length := by simp [byt]
theorem piece_any (hF : F n_merge_piece = some (.fn c_merge_piece)) (m a : Int) (t : List (List AV)) (b f : Bool) : aP G F n_merge_piece [.agg [.int .i64 m, .int .i64 a, .data b 1 t f]] = some (.bool (pieceB m a t.length)) := by
  unfold aP pieceB
  rw [y_fn G F hF]
  by_cases h1 : 1 ≤ m
  · by_cases h2 : m ≤ 8
    · by_cases h3 : 1 ≤ a
      · by_cases h4 : a ≤ 1073741824
        · by_cases h5 : (1 : Int) ≤ t.length
          · by_cases h6 : (t.length : Int) ≤ 16
            · cases b <;> (sym => simp [Qb,Qd,Qe,Qf,Qg,Qi,Qj,Qr,Qt,Qu,Qw,Q4,Xa,Xp,Xy,Yb,Yd,Yh,Yj,Yr,Yt,Yv,Y1,Y5,Y7,Y9,Za,Zb,Zc,Ze,Zg,Zh,Zi,Zj,Zk,Zl,Zm,Zn,Zr,Zs,Zt,Zu,Zv,Zw,Zy,Z0,Z3,Ja,Jj,Jk,Jv,Jx,Ue,Uf,Ug,Ul,Wk,Hh,Hi,Hv,Nl,Nm,No,Nq,Nr,Nw,Nx,Be,q27R0.eq_1,q27R1.eq_1,c_merge_piece.eq_1,h1,h2,h3,h4,h5,h6])
            · cases b <;> (sym => simp [Qb,Qd,Qe,Qf,Qg,Qi,Qj,Qr,Qt,Qu,Qw,Q4,Xa,Xp,Xy,Yb,Yd,Yh,Yj,Yr,Yt,Yv,Y1,Y5,Y7,Y9,Za,Zb,Zc,Ze,Zg,Zh,Zi,Zj,Zk,Zl,Zm,Zn,Zr,Zs,Zt,Zu,Zv,Zw,Zy,Z0,Z3,Ja,Jj,Jk,Jv,Jx,Ue,Uf,Ug,Ul,Wk,Hh,Hi,Hv,Nl,Nm,No,Nq,Nr,Nw,Nx,Be,q27R0.eq_1,q27R1.eq_1,c_merge_piece.eq_1,h1,h2,h3,h4,h5,h6])
          · cases b <;> (sym => simp [Qb,Qd,Qe,Qf,Qg,Qi,Qj,Qr,Qt,Qu,Qw,Q4,Xa,Xp,Xy,Yb,Yd,Yh,Yj,Yr,Yt,Yv,Y1,Y5,Y7,Y9,Za,Zb,Zc,Ze,Zg,Zh,Zi,Zj,Zk,Zl,Zm,Zn,Zr,Zs,Zt,Zu,Zv,Zw,Zy,Z0,Z3,Ja,Jj,Jk,Jv,Jx,Ue,Uf,Ug,Ul,Wk,Hh,Hi,Hv,Nl,Nm,No,Nq,Nr,Nw,Nx,Be,q27R0.eq_1,q27R1.eq_1,c_merge_piece.eq_1,h1,h2,h3,h4,h5])
        · cases b <;> (sym => simp [Qb,Qd,Qe,Qf,Qg,Qi,Qj,Qr,Qt,Qu,Qw,Q4,Xa,Xp,Xy,Yb,Yd,Yh,Yj,Yr,Yt,Yv,Y1,Y5,Y7,Y9,Za,Zb,Zc,Ze,Zg,Zh,Zi,Zj,Zk,Zl,Zm,Zn,Zr,Zs,Zt,Zu,Zv,Zw,Zy,Z0,Z3,Ja,Jj,Jk,Jv,Jx,Ue,Uf,Ug,Ul,Wk,Hh,Hi,Hv,Nl,Nm,No,Nq,Nr,Nw,Nx,Be,q27R0.eq_1,q27R1.eq_1,c_merge_piece.eq_1,h1,h2,h3,h4])
      · cases b <;> (sym => simp [Qb,Qd,Qe,Qf,Qg,Qi,Qj,Qr,Qt,Qu,Qw,Q4,Xa,Xp,Xy,Yb,Yd,Yh,Yj,Yr,Yt,Yv,Y1,Y5,Y7,Y9,Za,Zb,Zc,Ze,Zg,Zh,Zi,Zj,Zk,Zl,Zm,Zn,Zr,Zs,Zt,Zu,Zv,Zw,Zy,Z0,Z3,Ja,Jj,Jk,Jv,Jx,Ue,Uf,Ug,Ul,Wk,Hh,Hi,Hv,Nl,Nm,No,Nq,Nr,Nw,Nx,Be,q27R0.eq_1,q27R1.eq_1,c_merge_piece.eq_1,h1,h2,h3])
    · cases b <;> (sym => simp [Qb,Qd,Qe,Qf,Qg,Qi,Qj,Qr,Qt,Qu,Qw,Q4,Xa,Xp,Xy,Yb,Yd,Yh,Yj,Yr,Yt,Yv,Y1,Y5,Y7,Y9,Za,Zb,Zc,Ze,Zg,Zh,Zi,Zj,Zk,Zl,Zm,Zn,Zr,Zs,Zt,Zu,Zv,Zw,Zy,Z0,Z3,Ja,Jj,Jk,Jv,Jx,Ue,Uf,Ug,Ul,Wk,Hh,Hi,Hv,Nl,Nm,No,Nq,Nr,Nw,Nx,Be,q27R0.eq_1,q27R1.eq_1,c_merge_piece.eq_1,h1,h2])
  · cases b <;> (sym => simp [Qb,Qd,Qe,Qf,Qg,Qi,Qj,Qr,Qt,Qu,Qw,Q4,Xa,Xp,Xy,Yb,Yd,Yh,Yj,Yr,Yt,Yv,Y1,Y5,Y7,Y9,Za,Zb,Zc,Ze,Zg,Zh,Zi,Zj,Zk,Zl,Zm,Zn,Zr,Zs,Zt,Zu,Zv,Zw,Zy,Z0,Z3,Ja,Jj,Jk,Jv,Jx,Ue,Uf,Ug,Ul,Wk,Hh,Hi,Hv,Nl,Nm,No,Nq,Nr,Nw,Nx,Be,q27R0.eq_1,q27R1.eq_1,c_merge_piece.eq_1,h1])
theorem qmay_loop (hF : F n_merge_piece = some (.fn c_merge_piece)) (q : List Pc) (b f : Bool) (hl : q.length < 1000001) (hb : ∀ x ∈ q, x.2.2.1.length < 1000001) : ∀ (m i : Nat) (n : Int), i + m = q.length → 0 ≤ n → n ≤ 64 → ∃ R,
    (∀ st, agc 0 [3, 6, 7, 8] st = some ⟨[(3, .int .i64 n), (6, .data b 3 (pcs q) f), (7, .int .i64 q.length), (8, .int .i64 i)], []⟩ → aE G F 0 lp_merge_May_0 st = some R) ∧
    ((mayQ n (q.drop i) = true ∧ ∃ n', R = (.exit 0, ⟨[(3, .int .i64 n'), (6, .data b 3 (pcs q) f), (7, .int .i64 q.length), (8, .int .i64 q.length), (9, .bool false)], []⟩)) ∨
      (mayQ n (q.drop i) = false ∧ ∃ h', R = (.ret, ⟨[(2, .bool false)], h'⟩))) := by
  intro m
  induction m with
  | zero =>
    intro i n hi h0 h64
    have e : q.drop i = [] := List.drop_eq_nil_of_le (by omega)
    have ei : i = q.length := by omega
    subst ei
    have e0 : decide ((q.length : Int) < q.length) = false := by simp
    refine ⟨_, fun st hst => ?_, .inl ⟨by rw [e]; rfl, n, rfl⟩⟩
    rw [lp_merge_May_0, y_loop, hst]
    (sym => simp [Qa,Qb,Qc,Qd,Qe,Qf,Qg,Qi,Qj,Qm,Qn,Qo,Qr,Qt,Qu,Qv,Q4,Q5,Xa,Xd,Xp,Xs,Xy,X5,Ya,Yc,Yh,Yr,Ys,Yt,Yu,Yv,Yy,Y9,Za,Zb,Zc,Zd,Ze,Zg,Zh,Zk,Zl,Zm,Zn,Zo,Zt,Zv,Zw,Zy,Z0,Z1,Z3,Jb,Jj,Jk,Jl,Jm,Jn,Jo,Jp,Jr,Js,Jt,Ju,Jv,J1,J2,Ue,Uf,Ug,Ul,Ux,U0,U4,U5,Vb,Ve,Vo,Vq,Vr,Vt,Vv,Vw,Vy,Vz,V0,V3,V6,V9,Wd,We,Hh,Hi,Hk,Ho,Hp,Hq,Hr,Hs,Ht,Hv,Hw,H1,Ni,Nk,Nl,Nm,No,Np,Nw,Nx,N0,Be,Ma,Mb,Md,Me,Mf,q22R0.eq_1,q22R1.eq_1,q22R2.eq_1,q22R3.eq_1,q22R4.eq_1,q22R5.eq_1,q22R6.eq_1,q22R7.eq_1,q22R8.eq_1,q22R9.eq_1,c_merge_May.eq_1,c_merge_May_L0.eq_1,e0])
  | succ m ih =>
    intro i n hi h0 h64
    have hlt : i < q.length := by omega
    have hlt' : (i : Int) < q.length := by omega
    have e : q.drop i = q[i] :: q.drop (i + 1) := List.drop_eq_getElem_cons hlt
    have hw := wrap_nat (n := i) (by omega)
    have hg := pcs_at hlt
    have hbi := hb q[i] (List.getElem_mem _)
    rw [lp_merge_May_0] at ih ⊢
    rw [e]
    obtain ⟨x, hx⟩ : ∃ x, q[i] = x := ⟨_, rfl⟩
    rw [hx] at hg hbi ⊢
    obtain ⟨ma, aa, t, tf⟩ := x
    simp only at hg hbi
    have hP := fun f => piece_any G F hF ma aa (byt t) b f
    have hbl := byt_len t
    rw [hbl] at hP
    have hwn : IntKind.i64.wrap (n + t.length) = n + t.length := by rw [wrap_in _ (by omega) (by omega)]
    rw [mayQ]
    cases hp : pieceB ma aa t.length with
    | false =>
      rw [hp] at hP
      refine ⟨(.ret, ⟨[(2, .bool false)], [⟨3, 0, !b, [[.int .i64 ma, .int .i64 aa, .data b 1 (byt t) tf]]⟩]⟩), fun st hst => ?_, .inr ⟨by simp, _, rfl⟩⟩
      rw [y_loop, hst]
      (sym => simp [Qa,Qb,Qc,Qd,Qe,Qf,Qg,Qi,Qj,Qm,Qn,Qo,Qr,Qt,Qu,Qv,Q4,Q5,Xa,Xd,Xp,Xs,Xy,X5,Ya,Yc,Yh,Yr,Ys,Yt,Yu,Yv,Yy,Y9,Za,Zb,Zc,Zd,Ze,Zg,Zh,Zk,Zl,Zm,Zn,Zo,Zt,Zv,Zw,Zy,Z0,Z1,Z3,Jb,Jj,Jk,Jl,Jm,Jn,Jo,Jp,Jr,Js,Jt,Ju,Jv,J1,J2,Ue,Uf,Ug,Ul,Ux,U0,U4,U5,Vb,Ve,Vo,Vq,Vr,Vt,Vv,Vw,Vy,Vz,V0,V3,V6,V9,Wd,We,Hh,Hi,Hk,Ho,Hp,Hq,Hr,Hs,Ht,Hv,Hw,H1,Ni,Nk,Nl,Nm,No,Np,Nw,Nx,N0,Be,Ma,Mb,Md,Me,Mf,q22R0.eq_1,q22R1.eq_1,q22R2.eq_1,q22R3.eq_1,q22R4.eq_1,q22R5.eq_1,q22R6.eq_1,q22R7.eq_1,q22R8.eq_1,q22R9.eq_1,c_merge_May.eq_1,c_merge_May_L0.eq_1,hlt',hg,hbl,hP,hwn])
    | true =>
      rw [hp] at hP
      by_cases h6 : n + t.length ≤ 64
      · obtain ⟨R, ih1, ih2⟩ := ih (i + 1) (n + t.length) (by omega) (by omega) h6
        have hn6 : ¬ (64 : Int) < n + t.length := by omega
        refine ⟨R, fun st hst => ?_, by simpa [hp, h6] using ih2⟩
        rw [y_loop, hst]
        clear ih2
        generalize some R = R2 at ih1 ⊢
        (sym => simp [Qa,Qb,Qc,Qd,Qe,Qf,Qg,Qi,Qj,Qm,Qn,Qo,Qr,Qt,Qu,Qv,Q4,Q5,Xa,Xd,Xp,Xs,Xy,X5,Ya,Yc,Yh,Yr,Ys,Yt,Yu,Yv,Yy,Y9,Za,Zb,Zc,Zd,Ze,Zg,Zh,Zk,Zl,Zm,Zn,Zo,Zt,Zv,Zw,Zy,Z0,Z1,Z3,Jb,Jj,Jk,Jl,Jm,Jn,Jo,Jp,Jr,Js,Jt,Ju,Jv,J1,J2,Ue,Uf,Ug,Ul,Ux,U0,U4,U5,Vb,Ve,Vo,Vq,Vr,Vt,Vv,Vw,Vy,Vz,V0,V3,V6,V9,Wd,We,Hh,Hi,Hk,Ho,Hp,Hq,Hr,Hs,Ht,Hv,Hw,H1,Ni,Nk,Nl,Nm,No,Np,Nw,Nx,N0,Be,Ma,Mb,Md,Me,Mf,q22R0.eq_1,q22R1.eq_1,q22R2.eq_1,q22R3.eq_1,q22R4.eq_1,q22R5.eq_1,q22R6.eq_1,q22R7.eq_1,q22R8.eq_1,q22R9.eq_1,c_merge_May.eq_1,c_merge_May_L0.eq_1,hlt',hg,hbl,hP,hwn,hn6,hw]; tactic => (
          refine ih1 _ ?_
          (sym => simp [Qa,Qb,Qc,Qd,Qe,Qf,Qg,Qi,Qj,Qm,Qn,Qo,Qr,Qt,Qu,Qv,Q4,Q5,Xa,Xd,Xp,Xs,Xy,X5,Ya,Yc,Yh,Yr,Ys,Yt,Yu,Yv,Yy,Y9,Za,Zb,Zc,Zd,Ze,Zg,Zh,Zk,Zl,Zm,Zn,Zo,Zt,Zv,Zw,Zy,Z0,Z1,Z3,Jb,Jj,Jk,Jl,Jm,Jn,Jo,Jp,Jr,Js,Jt,Ju,Jv,J1,J2,Ue,Uf,Ug,Ul,Ux,U0,U4,U5,Vb,Ve,Vo,Vq,Vr,Vt,Vv,Vw,Vy,Vz,V0,V3,V6,V9,Wd,We,Hh,Hi,Hk,Ho,Hp,Hq,Hr,Hs,Ht,Hv,Hw,H1,Ni,Nk,Nl,Nm,No,Np,Nw,Nx,N0,Be,Ma,Mb,Md,Me,Mf])))
      · have hn6 : (64 : Int) < n + t.length := by omega
        refine ⟨(.ret, ⟨[(2, .bool false)], [⟨3, 0, !b, [[.int .i64 ma, .int .i64 aa, .data b 1 (byt t) tf]]⟩]⟩), fun st hst => ?_, .inr ⟨by simp [h6], _, rfl⟩⟩
        rw [y_loop, hst]
        (sym => simp [Qa,Qb,Qc,Qd,Qe,Qf,Qg,Qi,Qj,Qm,Qn,Qo,Qr,Qt,Qu,Qv,Q4,Q5,Xa,Xd,Xp,Xs,Xy,X5,Ya,Yc,Yh,Yr,Ys,Yt,Yu,Yv,Yy,Y9,Za,Zb,Zc,Zd,Ze,Zg,Zh,Zk,Zl,Zm,Zn,Zo,Zt,Zv,Zw,Zy,Z0,Z1,Z3,Jb,Jj,Jk,Jl,Jm,Jn,Jo,Jp,Jr,Js,Jt,Ju,Jv,J1,J2,Ue,Uf,Ug,Ul,Ux,U0,U4,U5,Vb,Ve,Vo,Vq,Vr,Vt,Vv,Vw,Vy,Vz,V0,V3,V6,V9,Wd,We,Hh,Hi,Hk,Ho,Hp,Hq,Hr,Hs,Ht,Hv,Hw,H1,Ni,Nk,Nl,Nm,No,Np,Nw,Nx,N0,Be,Ma,Mb,Md,Me,Mf,q22R0.eq_1,q22R1.eq_1,q22R2.eq_1,q22R3.eq_1,q22R4.eq_1,q22R5.eq_1,q22R6.eq_1,q22R7.eq_1,q22R8.eq_1,q22R9.eq_1,c_merge_May.eq_1,c_merge_May_L0.eq_1,hlt',hg,hbl,hP,hwn,hn6])
theorem may_any (hF : F n_merge_piece = some (.fn c_merge_piece)) (hM : F n_merge_May = some (.fn c_merge_May)) (q : List Pc) (b f : Bool) (hl : q.length < 1000001) (hb : ∀ x ∈ q, x.2.2.1.length < 1000001) : aP G F n_merge_May [.data b 3 (pcs q) f] = some (.bool (mayQ 0 q)) := by
  obtain ⟨R, k1, k2⟩ := qmay_loop G F hF q b f hl hb q.length 0 0 (by omega) (by omega) (by omega)
  have hln := pcs_len q
  simp only [List.drop_zero, Int.natCast_zero] at k1 k2
  have k1 := k1 ⟨[(3, .int .i64 0), (6, .data b 3 (pcs q) f), (7, .int .i64 q.length), (8, .int .i64 0)], []⟩ (by (sym => simp [Qb,Qd,Qe,Qi,Qj,Qr,Xy,Yh,Y1,Y5,Y7,Y9,Za,Zb,Zc,Ze,Zg,Zh,Zi,Zj,Zk,Zl,Zm,Zr,Zs,Zt,Zu,Zv,Zw,Jj,Jk,Jl,Jn,Jp,Jq,Jv,Jx,Ux,U0,U4,U5,Vb,Ve,Vo,Vq,Vr,Vt,Vv,Vw,Vy,Vz,V0,Wk,Hq,Hw,H1,No,Be]))
  unfold aP
  rw [y_fn G F hM]
  rcases k2 with ⟨hm, n', rfl⟩ | ⟨hm, h', rfl⟩
  · rw [hm]; (sym => simp [Qb,Qd,Qe,Qi,Qj,Qr,Xy,Yh,Y1,Y5,Y7,Y9,Za,Zb,Zc,Ze,Zg,Zh,Zi,Zj,Zk,Zl,Zm,Zr,Zs,Zt,Zu,Zv,Zw,Jj,Jk,Jl,Jn,Jp,Jq,Jv,Jx,Ux,U0,U4,U5,Vb,Ve,Vo,Vq,Vr,Vt,Vv,Vw,Vy,Vz,V0,Wk,Hq,Hw,H1,No,Be,q22R0.eq_1,q22R1.eq_1,q22R2.eq_1,q22R3.eq_1,q22R4.eq_1,q22R5.eq_1,q22R6.eq_1,q22R7.eq_1,q22R8.eq_1,q22R9.eq_1,c_merge_May.eq_1,k1,hln])
  · rw [hm]; (sym => simp [Qb,Qd,Qe,Qi,Qj,Qr,Xy,Yh,Y1,Y5,Y7,Y9,Za,Zb,Zc,Ze,Zg,Zh,Zi,Zj,Zk,Zl,Zm,Zr,Zs,Zt,Zu,Zv,Zw,Jj,Jk,Jl,Jn,Jp,Jq,Jv,Jx,Ux,U0,U4,U5,Vb,Ve,Vo,Vq,Vr,Vt,Vv,Vw,Vy,Vz,V0,Wk,Hq,Hw,H1,No,Be,q22R0.eq_1,q22R1.eq_1,q22R2.eq_1,q22R3.eq_1,q22R4.eq_1,q22R5.eq_1,q22R6.eq_1,q22R7.eq_1,q22R8.eq_1,q22R9.eq_1,c_merge_May.eq_1,k1,hln])
theorem of_byt : ∀ l, bytOf (byt l) = some l
  | [] => rfl
  | x :: l => by
    have ih := of_byt l
    unfold bytOf byt at *
    rw [List.map_cons, List.mapM_cons, ih]; rfl
theorem of_pc (x : Pc) : pcOf (pcell x) = some x := by
  obtain ⟨m, a, l, f⟩ := x
  show (bytOf (byt l)).map (fun l => (m, a, l, f)) = _
  rw [of_byt]; rfl
theorem mapM_of_pcs : ∀ q, (pcs q).mapM pcOf = some q
  | [] => rfl
  | x :: q => by
    have ih := mapM_of_pcs q
    unfold pcs at *
    rw [List.map_cons, List.mapM_cons, ih, of_pc]; rfl
end Go.Proofs.Ytfnonledcniojaa
