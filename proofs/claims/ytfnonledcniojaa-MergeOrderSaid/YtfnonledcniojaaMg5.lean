/- MergeOrder: the inner loops. Conditions: as each statement says. -/
import Derived.Test.YtfnonledcniojaaMg4
set_option linter.unusedVariables false
set_option linter.unusedSimpArgs false
set_option linter.unusedSectionVars false
set_option maxRecDepth 20000
set_option maxHeartbeats 4000000
namespace Go.Proofs.Ytfnonledcniojaa
open Go
variable (G : Nat → Option (List AV))
section
variable (P0 PN PO : List (List AV)) (f0 fN fO : Bool) (ci : Int) (inn : List Int) (hN : inn.length ≤ 1000)
include hN
theorem ord_loop2 (may : List Int) (hlen : may.length = inn.length) (kk : Int) (j1 : Nat) (hj1 : j1 < inn.length) : ∀ (m j : Nat), j + m = j1 → (∀ i, j ≤ i → i < j1 → may[i]? ≠ some 1) →
    aE G FT 0 lp_law28_MergeOrder_2 ⟨[(0, .data false 5 P0 f0), (4, .own 0 0 0 inn.length inn.length), (5, .own 1 0 0 inn.length inn.length), (7, .int .i64 ci), (11, .data false 3 PN fN), (12, .data false 3 PO fO), (13, .int .i64 kk), (14, .int .i64 ((j1 : Int) + 1)), (15, .int .i64 j)], [⟨1, 0, true, ints inn⟩, ⟨1, 0, true, ints may⟩]⟩ =
      some (.exit 5, ⟨[(0, .data false 5 P0 f0), (4, .own 0 0 0 inn.length inn.length), (5, .own 1 0 0 inn.length inn.length), (7, .int .i64 ci), (11, .data false 3 PN fN), (12, .data false 3 PO fO), (13, .int .i64 kk), (14, .int .i64 ((j1 : Int) + 1)), (15, .int .i64 j1), (132, .bool false)], [⟨1, 0, true, ints inn⟩, ⟨1, 0, true, ints may⟩]⟩) := by
  have hw1 : IntKind.i64.wrap ((j1 : Int) + 1 - 1) = (j1 : Int) := by rw [wrap_in _ (by omega) (by omega)]; omega
  intro m
  induction m with
  | zero =>
    intro j hj _
    obtain rfl : j = j1 := by omega
    rw [lp_law28_MergeOrder_2, y_loop]
    have e0 : decide ((j : Int) < j) = false := by simp
    (sym => simp [Qa,Qb,Qc,Qd,Qe,Qf,Qg,Qh,Qi,Qj,Qk,Ql,Qm,Qn,Qo,Qp,Qq,Qr,Qs,Qt,Qu,Qv,Qw,Qx,Qy,Qz,Q0,Q1,Q2,Q3,Q4,Q5,Q6,Q7,Q8,Q9,Xa,Xb,Xc,Xd,Xe,Xf,Xg,Xh,Xi,Xj,Xk,Xl,Xm,Xn,Xo,Xp,Xq,Xr,Xs,Xt,Xu,Xv,Xw,Xx,Xy,Xz,X0,X1,X2,X3,X4,X5,X6,X7,X8,X9,Ya,Yb,Yc,Yd,Ye,Yf,Yg,Yh,Yi,Yj,Yk,Yl,Ym,Yn,Yo,Yp,Yq,Yr,Ys,Yt,Yu,Yv,Yw,Yx,Yy,Yz,Y0,Y1,Y2,Y3,Y4,Y5,Y6,Y7,Y8,Y9,Za,Zb,Zc,Zd,Ze,Zf,Zg,Zh,Zi,Zj,Zk,Zl,Zm,Zn,Zo,Zp,Zq,Zr,Zs,Zt,Zu,Zv,Zw,Zx,Zy,Zz,Z0,Z1,Z2,Z3,Z4,Z5,Z6,Z7,Z8,Z9,Ja,Jb,Jc,Jd,Je,Jf,Jg,Jh,Ji,Jj,Jk,Jl,Jm,Jn,Jo,Jp,Jq,Jr,Js,Jt,Ju,Jv,Jw,Jx,Jy,Jz,J0,J1,J2,J3,J4,J5,J6,J7,J8,J9,Ka,Kb,Kc,Kd,Ke,Kf,Kg,Kh,Ki,Kj,Kk,Kl,Km,Kn,Ko,Kp,Kq,Kr,Ks,Kt,Ku,Kv,Kw,Kx,Ky,Kz,K0,K1,K2,K3,K4,K5,K6,K7,K8,K9,Ua,Ub,Uc,Ud,Ue,Uf,Ug,Uh,Ui,Uj,Uk,Ul,Um,Un,Uo,Up,Uq,Ur,Us,Ut,Uu,Uv,Uw,Ux,Uy,Uz,U0,U1,U2,U3,U4,U5,U6,U7,U8,U9,Va,Vb,Vc,Vd,Ve,Vf,Vg,Vh,Vi,Vj,Vk,Vl,Vm,Vn,Vo,Vp,Vq,Vr,Vs,Vt,Vu,Vv,Vw,Vx,Vy,Vz,V0,V1,V2,V3,V4,V5,V6,V7,V8,V9,Wa,Wb,Wc,Wd,We,Wf,Wg,Wh,Wi,Wj,Wk,Wl,Wm,Wn,Wo,Wp,Wq,Wr,Ws,Wt,Wu,Wv,Ww,Wx,Wy,Wz,W0,W1,W2,W3,W4,W5,W6,W7,W8,W9,Ha,Hb,Hc,Hd,He,Hf,Hg,Hh,Hi,Hj,Hk,Hl,Hm,Hn,Ho,Hp,Hq,Hr,Hs,Ht,Hu,Hv,Hw,Hx,Hy,Hz,H0,H1,H2,H3,H4,H5,H6,H7,H8,H9,Na,Nb,Nc,Nd,Ne,Nf,Ng,Nh,Ni,Nj,Nk,Nl,Nm,Nn,No,Np,Nq,Nr,Ns,Nt,Nu,Nv,Nw,Nx,Ny,Nz,N0,N1,N2,N3,N4,N5,N6,N7,N8,N9,Ba,Bb,Bc,Bd,Be,Bf,Bg,Bh,Bi,Bj,Bk,Bl,Bm,Bn,Bo,Bp,Bq,Br,Bs,Bt,Bu,Bv,Bw,Bx,By,Bz,BA,BB,BC,BD,BE,BF,BG,BH,BI,BJ,BK,BL,BM,BN,BO,BP,BQ,BR,BS,BT,BU,BV,BW,BX,BY,BZ,Ca,Cb,q14R0.eq_1,q14R1.eq_1,q14R2.eq_1,q14R3.eq_1,q14R4.eq_1,q14R5.eq_1,q14R6.eq_1,q14R7.eq_1,q14R8.eq_1,q14R9.eq_1,q14R11.eq_1,q14R12.eq_1,q14R13.eq_1,q14R14.eq_1,q14R15.eq_1,q14R16.eq_1,q14R17.eq_1,q14R18.eq_1,q14R19.eq_1,q14R20.eq_1,q14R21.eq_1,q14R22.eq_1,q14R23.eq_1,q14R24.eq_1,q14R25.eq_1,q14R26.eq_1,q14R28.eq_1,q14R29.eq_1,q14R30.eq_1,q14R31.eq_1,q14R32.eq_1,q14R34.eq_1,q14R35.eq_1,q14R33.eq_1,q14R36.eq_1,q14R37.eq_1,q14R27.eq_1,q14R38.eq_1,q14R39.eq_1,q14R40.eq_1,q14R41.eq_1,q14R42.eq_1,q14R44.eq_1,q14R45.eq_1,q14R43.eq_1,q14R46.eq_1,q14R47.eq_1,q14R48.eq_1,q14R50.eq_1,q14R51.eq_1,q14R49.eq_1,q14R52.eq_1,q14R53.eq_1,q14R10.eq_1,q14R54.eq_1,c_law28_MergeOrder.eq_1,c_law28_MergeOrder_L2.eq_1,hw1,e0])
  | succ m ih =>
    intro j hj hno
    have ih := ih (j + 1) (by omega) (fun i h1 h2 => hno i (by omega) h2)
    have hlt : (j : Int) < j1 := by omega
    have hjm : j < may.length := by omega
    have hg := ints_at hjm
    have hne : ¬ may[j] = 1 := fun h => hno j (Nat.le_refl _) (by omega) (by rw [List.getElem?_eq_getElem hjm, h])
    have hjl : (j : Int) < inn.length := by omega
    have hlm : (ints may).length = inn.length := by rw [ints_len, hlen]
    have hw := wrap_nat (n := j) (by omega)
    rw [lp_law28_MergeOrder_2] at ih
    rw [← ih, lp_law28_MergeOrder_2, y_loop]
    (sym => simp [Qa,Qb,Qc,Qd,Qe,Qf,Qg,Qh,Qi,Qj,Qk,Ql,Qm,Qn,Qo,Qp,Qq,Qr,Qs,Qt,Qu,Qv,Qw,Qx,Qy,Qz,Q0,Q1,Q2,Q3,Q4,Q5,Q6,Q7,Q8,Q9,Xa,Xb,Xc,Xd,Xe,Xf,Xg,Xh,Xi,Xj,Xk,Xl,Xm,Xn,Xo,Xp,Xq,Xr,Xs,Xt,Xu,Xv,Xw,Xx,Xy,Xz,X0,X1,X2,X3,X4,X5,X6,X7,X8,X9,Ya,Yb,Yc,Yd,Ye,Yf,Yg,Yh,Yi,Yj,Yk,Yl,Ym,Yn,Yo,Yp,Yq,Yr,Ys,Yt,Yu,Yv,Yw,Yx,Yy,Yz,Y0,Y1,Y2,Y3,Y4,Y5,Y6,Y7,Y8,Y9,Za,Zb,Zc,Zd,Ze,Zf,Zg,Zh,Zi,Zj,Zk,Zl,Zm,Zn,Zo,Zp,Zq,Zr,Zs,Zt,Zu,Zv,Zw,Zx,Zy,Zz,Z0,Z1,Z2,Z3,Z4,Z5,Z6,Z7,Z8,Z9,Ja,Jb,Jc,Jd,Je,Jf,Jg,Jh,Ji,Jj,Jk,Jl,Jm,Jn,Jo,Jp,Jq,Jr,Js,Jt,Ju,Jv,Jw,Jx,Jy,Jz,J0,J1,J2,J3,J4,J5,J6,J7,J8,J9,Ka,Kb,Kc,Kd,Ke,Kf,Kg,Kh,Ki,Kj,Kk,Kl,Km,Kn,Ko,Kp,Kq,Kr,Ks,Kt,Ku,Kv,Kw,Kx,Ky,Kz,K0,K1,K2,K3,K4,K5,K6,K7,K8,K9,Ua,Ub,Uc,Ud,Ue,Uf,Ug,Uh,Ui,Uj,Uk,Ul,Um,Un,Uo,Up,Uq,Ur,Us,Ut,Uu,Uv,Uw,Ux,Uy,Uz,U0,U1,U2,U3,U4,U5,U6,U7,U8,U9,Va,Vb,Vc,Vd,Ve,Vf,Vg,Vh,Vi,Vj,Vk,Vl,Vm,Vn,Vo,Vp,Vq,Vr,Vs,Vt,Vu,Vv,Vw,Vx,Vy,Vz,V0,V1,V2,V3,V4,V5,V6,V7,V8,V9,Wa,Wb,Wc,Wd,We,Wf,Wg,Wh,Wi,Wj,Wk,Wl,Wm,Wn,Wo,Wp,Wq,Wr,Ws,Wt,Wu,Wv,Ww,Wx,Wy,Wz,W0,W1,W2,W3,W4,W5,W6,W7,W8,W9,Ha,Hb,Hc,Hd,He,Hf,Hg,Hh,Hi,Hj,Hk,Hl,Hm,Hn,Ho,Hp,Hq,Hr,Hs,Ht,Hu,Hv,Hw,Hx,Hy,Hz,H0,H1,H2,H3,H4,H5,H6,H7,H8,H9,Na,Nb,Nc,Nd,Ne,Nf,Ng,Nh,Ni,Nj,Nk,Nl,Nm,Nn,No,Np,Nq,Nr,Ns,Nt,Nu,Nv,Nw,Nx,Ny,Nz,N0,N1,N2,N3,N4,N5,N6,N7,N8,N9,Ba,Bb,Bc,Bd,Be,Bf,Bg,Bh,Bi,Bj,Bk,Bl,Bm,Bn,Bo,Bp,Bq,Br,Bs,Bt,Bu,Bv,Bw,Bx,By,Bz,BA,BB,BC,BD,BE,BF,BG,BH,BI,BJ,BK,BL,BM,BN,BO,BP,BQ,BR,BS,BT,BU,BV,BW,BX,BY,BZ,Ca,Cb,q14R0.eq_1,q14R1.eq_1,q14R2.eq_1,q14R3.eq_1,q14R4.eq_1,q14R5.eq_1,q14R6.eq_1,q14R7.eq_1,q14R8.eq_1,q14R9.eq_1,q14R11.eq_1,q14R12.eq_1,q14R13.eq_1,q14R14.eq_1,q14R15.eq_1,q14R16.eq_1,q14R17.eq_1,q14R18.eq_1,q14R19.eq_1,q14R20.eq_1,q14R21.eq_1,q14R22.eq_1,q14R23.eq_1,q14R24.eq_1,q14R25.eq_1,q14R26.eq_1,q14R28.eq_1,q14R29.eq_1,q14R30.eq_1,q14R31.eq_1,q14R32.eq_1,q14R34.eq_1,q14R35.eq_1,q14R33.eq_1,q14R36.eq_1,q14R37.eq_1,q14R27.eq_1,q14R38.eq_1,q14R39.eq_1,q14R40.eq_1,q14R41.eq_1,q14R42.eq_1,q14R44.eq_1,q14R45.eq_1,q14R43.eq_1,q14R46.eq_1,q14R47.eq_1,q14R48.eq_1,q14R50.eq_1,q14R51.eq_1,q14R49.eq_1,q14R52.eq_1,q14R53.eq_1,q14R10.eq_1,q14R54.eq_1,c_law28_MergeOrder.eq_1,c_law28_MergeOrder_L2.eq_1,hw1,hlt,hg,hne,hjl,hlm,hw])
theorem ints_set' (l : List Int) (j : Nat) (x : Int) : (ints l).set j [.int .i64 x] = ints (l.set j x) := by simp [ints, List.map_set]
theorem ord_loop1 (next O : List Pc) (hO : O.length ≤ 1000) : ∀ (o : List Pc) (i : Nat) (may : List Int) (last : Nat), O.drop i = o → Inv (o ++ next) inn may last → i ≤ O.length → ∃ may' last', Inv next inn may' last' ∧
    ∀ st, agc 0 [0, 4, 5, 6, 7, 11, 12, 13] st = some ⟨[(0, .data false 5 P0 f0), (4, .own 0 0 0 inn.length inn.length), (5, .own 1 0 0 inn.length inn.length), (6, .int .i64 last), (7, .int .i64 ci), (11, .data false 3 PN fN), (12, .data false 3 (pcs O) fO), (13, .int .i64 i)], [⟨1, 0, true, ints inn⟩, ⟨1, 0, true, ints may⟩]⟩ →
    aE G FT 0 lp_law28_MergeOrder_1 st =
      some (.exit 3, ⟨[(0, .data false 5 P0 f0), (4, .own 0 0 0 inn.length inn.length), (5, .own 1 0 0 inn.length inn.length), (6, .int .i64 (last' : Nat)), (7, .int .i64 ci), (11, .data false 3 PN fN), (12, .data false 3 (pcs O) fO), (13, .int .i64 O.length), (90, .bool false)], [⟨1, 0, true, ints inn⟩, ⟨1, 0, true, ints may'⟩]⟩) := by
  intro o
  induction o with
  | nil =>
    intro i may last hd hI hi
    refine ⟨may, last, hI, fun st hst => ?_⟩
    rw [lp_law28_MergeOrder_1, y_loop, hst]
    obtain rfl : i = O.length := by have := congrArg List.length hd; simp at this; omega
    have e0 : decide ((O.length : Int) < O.length) = false := by simp
    have hln := pcs_len O
    (sym => simp [Qa,Qb,Qc,Qd,Qe,Qf,Qg,Qh,Qi,Qj,Qk,Ql,Qm,Qn,Qo,Qp,Qq,Qr,Qs,Qt,Qu,Qv,Qw,Qx,Qy,Qz,Q0,Q1,Q2,Q3,Q4,Q5,Q6,Q7,Q8,Q9,Xa,Xb,Xc,Xd,Xe,Xf,Xg,Xh,Xi,Xj,Xk,Xl,Xm,Xn,Xo,Xp,Xq,Xr,Xs,Xt,Xu,Xv,Xw,Xx,Xy,Xz,X0,X1,X2,X3,X4,X5,X6,X7,X8,X9,Ya,Yb,Yc,Yd,Ye,Yf,Yg,Yh,Yi,Yj,Yk,Yl,Ym,Yn,Yo,Yp,Yq,Yr,Ys,Yt,Yu,Yv,Yw,Yx,Yy,Yz,Y0,Y1,Y2,Y3,Y4,Y5,Y6,Y7,Y8,Y9,Za,Zb,Zc,Zd,Ze,Zf,Zg,Zh,Zi,Zj,Zk,Zl,Zm,Zn,Zo,Zp,Zq,Zr,Zs,Zt,Zu,Zv,Zw,Zx,Zy,Zz,Z0,Z1,Z2,Z3,Z4,Z5,Z6,Z7,Z8,Z9,Ja,Jb,Jc,Jd,Je,Jf,Jg,Jh,Ji,Jj,Jk,Jl,Jm,Jn,Jo,Jp,Jq,Jr,Js,Jt,Ju,Jv,Jw,Jx,Jy,Jz,J0,J1,J2,J3,J4,J5,J6,J7,J8,J9,Ka,Kb,Kc,Kd,Ke,Kf,Kg,Kh,Ki,Kj,Kk,Kl,Km,Kn,Ko,Kp,Kq,Kr,Ks,Kt,Ku,Kv,Kw,Kx,Ky,Kz,K0,K1,K2,K3,K4,K5,K6,K7,K8,K9,Ua,Ub,Uc,Ud,Ue,Uf,Ug,Uh,Ui,Uj,Uk,Ul,Um,Un,Uo,Up,Uq,Ur,Us,Ut,Uu,Uv,Uw,Ux,Uy,Uz,U0,U1,U2,U3,U4,U5,U6,U7,U8,U9,Va,Vb,Vc,Vd,Ve,Vf,Vg,Vh,Vi,Vj,Vk,Vl,Vm,Vn,Vo,Vp,Vq,Vr,Vs,Vt,Vu,Vv,Vw,Vx,Vy,Vz,V0,V1,V2,V3,V4,V5,V6,V7,V8,V9,Wa,Wb,Wc,Wd,We,Wf,Wg,Wh,Wi,Wj,Wk,Wl,Wm,Wn,Wo,Wp,Wq,Wr,Ws,Wt,Wu,Wv,Ww,Wx,Wy,Wz,W0,W1,W2,W3,W4,W5,W6,W7,W8,W9,Ha,Hb,Hc,Hd,He,Hf,Hg,Hh,Hi,Hj,Hk,Hl,Hm,Hn,Ho,Hp,Hq,Hr,Hs,Ht,Hu,Hv,Hw,Hx,Hy,Hz,H0,H1,H2,H3,H4,H5,H6,H7,H8,H9,Na,Nb,Nc,Nd,Ne,Nf,Ng,Nh,Ni,Nj,Nk,Nl,Nm,Nn,No,Np,Nq,Nr,Ns,Nt,Nu,Nv,Nw,Nx,Ny,Nz,N0,N1,N2,N3,N4,N5,N6,N7,N8,N9,Ba,Bb,Bc,Bd,Be,Bf,Bg,Bh,Bi,Bj,Bk,Bl,Bm,Bn,Bo,Bp,Bq,Br,Bs,Bt,Bu,Bv,Bw,Bx,By,Bz,BA,BB,BC,BD,BE,BF,BG,BH,BI,BJ,BK,BL,BM,BN,BO,BP,BQ,BR,BS,BT,BU,BV,BW,BX,BY,BZ,Ca,Cb,q14R0.eq_1,q14R1.eq_1,q14R2.eq_1,q14R3.eq_1,q14R4.eq_1,q14R5.eq_1,q14R6.eq_1,q14R7.eq_1,q14R8.eq_1,q14R9.eq_1,q14R11.eq_1,q14R12.eq_1,q14R13.eq_1,q14R14.eq_1,q14R15.eq_1,q14R16.eq_1,q14R17.eq_1,q14R18.eq_1,q14R19.eq_1,q14R20.eq_1,q14R21.eq_1,q14R22.eq_1,q14R23.eq_1,q14R24.eq_1,q14R25.eq_1,q14R26.eq_1,q14R28.eq_1,q14R29.eq_1,q14R30.eq_1,q14R31.eq_1,q14R32.eq_1,q14R34.eq_1,q14R35.eq_1,q14R33.eq_1,q14R36.eq_1,q14R37.eq_1,q14R27.eq_1,q14R38.eq_1,q14R39.eq_1,q14R40.eq_1,q14R41.eq_1,q14R42.eq_1,q14R44.eq_1,q14R45.eq_1,q14R43.eq_1,q14R46.eq_1,q14R47.eq_1,q14R48.eq_1,q14R50.eq_1,q14R51.eq_1,q14R49.eq_1,q14R52.eq_1,q14R53.eq_1,q14R10.eq_1,q14R54.eq_1,c_law28_MergeOrder.eq_1,c_law28_MergeOrder_L1.eq_1,e0,hln])
  | cons x o ih =>
    intro i may last hd hI hi
    have hil : i < O.length := by have := congrArg List.length hd; simp at this; omega
    have hdx : O.drop i = O[i] :: O.drop (i + 1) := List.drop_eq_getElem_cons hil
    rw [hdx] at hd
    obtain ⟨hxe, hd2⟩ := List.cons.inj hd
    have hlen := hI.len
    obtain ⟨j, e, h1, h2, h3, h4, h5, hI2⟩ := hI.pop
    obtain ⟨may', last', hI3, ih⟩ := ih (i + 1) (may.set j 2) (j + 1) hd2 hI2 (by omega)
    refine ⟨may', last', hI3, fun st hst => ?_⟩
    have key := ord_loop2 G P0 PN (pcs O) f0 fN fO ci inn hN may hlen i j h2 (j - last) last (by omega) h5
    have hg := pcs_at hil
    rw [hxe, e] at hg
    have hln := pcs_len O
    have hil' : (i : Int) < O.length := by omega
    have hla : ¬ (j : Int) + 1 ≤ last := by omega
    have hnn : ¬ (inn.length : Int) < (j : Int) + 1 := by omega
    have hjl : (j : Int) < inn.length := by omega
    have hjm : j < may.length := by omega
    have gi := ints_at h2
    have gm := ints_at hjm
    have e3 : inn[j] = x.1 := by rw [List.getElem?_eq_getElem h2] at h3; exact Option.some.inj h3
    have e4 : may[j] = 1 := by rw [List.getElem?_eq_getElem hjm] at h4; exact Option.some.inj h4
    rw [e3] at gi
    rw [e4] at gm
    have li : (ints inn).length = inn.length := ints_len inn
    have lm : (ints may).length = inn.length := by rw [ints_len, hlen]
    have hw := wrap_nat (n := i) (by omega)
    have hw1 : IntKind.i64.wrap ((j : Int) + 1 - 1) = (j : Int) := by rw [wrap_in _ (by omega) (by omega)]; omega
    have hs := ints_set' inn hN may j 2
    have ec : ((j + 1 : Nat) : Int) = (j : Int) + 1 := by omega
    rw [ec] at ih
    rw [lp_law28_MergeOrder_1] at ih
    rw [lp_law28_MergeOrder_1, y_loop, hst]
    generalize ints may' = PM at ih ⊢
    (sym => simp [Qa,Qb,Qc,Qd,Qe,Qf,Qg,Qh,Qi,Qj,Qk,Ql,Qm,Qn,Qo,Qp,Qq,Qr,Qs,Qt,Qu,Qv,Qw,Qx,Qy,Qz,Q0,Q1,Q2,Q3,Q4,Q5,Q6,Q7,Q8,Q9,Xa,Xb,Xc,Xd,Xe,Xf,Xg,Xh,Xi,Xj,Xk,Xl,Xm,Xn,Xo,Xp,Xq,Xr,Xs,Xt,Xu,Xv,Xw,Xx,Xy,Xz,X0,X1,X2,X3,X4,X5,X6,X7,X8,X9,Ya,Yb,Yc,Yd,Ye,Yf,Yg,Yh,Yi,Yj,Yk,Yl,Ym,Yn,Yo,Yp,Yq,Yr,Ys,Yt,Yu,Yv,Yw,Yx,Yy,Yz,Y0,Y1,Y2,Y3,Y4,Y5,Y6,Y7,Y8,Y9,Za,Zb,Zc,Zd,Ze,Zf,Zg,Zh,Zi,Zj,Zk,Zl,Zm,Zn,Zo,Zp,Zq,Zr,Zs,Zt,Zu,Zv,Zw,Zx,Zy,Zz,Z0,Z1,Z2,Z3,Z4,Z5,Z6,Z7,Z8,Z9,Ja,Jb,Jc,Jd,Je,Jf,Jg,Jh,Ji,Jj,Jk,Jl,Jm,Jn,Jo,Jp,Jq,Jr,Js,Jt,Ju,Jv,Jw,Jx,Jy,Jz,J0,J1,J2,J3,J4,J5,J6,J7,J8,J9,Ka,Kb,Kc,Kd,Ke,Kf,Kg,Kh,Ki,Kj,Kk,Kl,Km,Kn,Ko,Kp,Kq,Kr,Ks,Kt,Ku,Kv,Kw,Kx,Ky,Kz,K0,K1,K2,K3,K4,K5,K6,K7,K8,K9,Ua,Ub,Uc,Ud,Ue,Uf,Ug,Uh,Ui,Uj,Uk,Ul,Um,Un,Uo,Up,Uq,Ur,Us,Ut,Uu,Uv,Uw,Ux,Uy,Uz,U0,U1,U2,U3,U4,U5,U6,U7,U8,U9,Va,Vb,Vc,Vd,Ve,Vf,Vg,Vh,Vi,Vj,Vk,Vl,Vm,Vn,Vo,Vp,Vq,Vr,Vs,Vt,Vu,Vv,Vw,Vx,Vy,Vz,V0,V1,V2,V3,V4,V5,V6,V7,V8,V9,Wa,Wb,Wc,Wd,We,Wf,Wg,Wh,Wi,Wj,Wk,Wl,Wm,Wn,Wo,Wp,Wq,Wr,Ws,Wt,Wu,Wv,Ww,Wx,Wy,Wz,W0,W1,W2,W3,W4,W5,W6,W7,W8,W9,Ha,Hb,Hc,Hd,He,Hf,Hg,Hh,Hi,Hj,Hk,Hl,Hm,Hn,Ho,Hp,Hq,Hr,Hs,Ht,Hu,Hv,Hw,Hx,Hy,Hz,H0,H1,H2,H3,H4,H5,H6,H7,H8,H9,Na,Nb,Nc,Nd,Ne,Nf,Ng,Nh,Ni,Nj,Nk,Nl,Nm,Nn,No,Np,Nq,Nr,Ns,Nt,Nu,Nv,Nw,Nx,Ny,Nz,N0,N1,N2,N3,N4,N5,N6,N7,N8,N9,Ba,Bb,Bc,Bd,Be,Bf,Bg,Bh,Bi,Bj,Bk,Bl,Bm,Bn,Bo,Bp,Bq,Br,Bs,Bt,Bu,Bv,Bw,Bx,By,Bz,BA,BB,BC,BD,BE,BF,BG,BH,BI,BJ,BK,BL,BM,BN,BO,BP,BQ,BR,BS,BT,BU,BV,BW,BX,BY,BZ,Ca,Cb,q14R0.eq_1,q14R1.eq_1,q14R2.eq_1,q14R3.eq_1,q14R4.eq_1,q14R5.eq_1,q14R6.eq_1,q14R7.eq_1,q14R8.eq_1,q14R9.eq_1,q14R11.eq_1,q14R12.eq_1,q14R13.eq_1,q14R14.eq_1,q14R15.eq_1,q14R16.eq_1,q14R17.eq_1,q14R18.eq_1,q14R19.eq_1,q14R20.eq_1,q14R21.eq_1,q14R22.eq_1,q14R23.eq_1,q14R24.eq_1,q14R25.eq_1,q14R26.eq_1,q14R28.eq_1,q14R29.eq_1,q14R30.eq_1,q14R31.eq_1,q14R32.eq_1,q14R34.eq_1,q14R35.eq_1,q14R33.eq_1,q14R36.eq_1,q14R37.eq_1,q14R27.eq_1,q14R38.eq_1,q14R39.eq_1,q14R40.eq_1,q14R41.eq_1,q14R42.eq_1,q14R44.eq_1,q14R45.eq_1,q14R43.eq_1,q14R46.eq_1,q14R47.eq_1,q14R48.eq_1,q14R50.eq_1,q14R51.eq_1,q14R49.eq_1,q14R52.eq_1,q14R53.eq_1,q14R10.eq_1,q14R54.eq_1,c_law28_MergeOrder.eq_1,c_law28_MergeOrder_L1.eq_1,hil',hg,hln,hla,hnn,hjl,gi,gm,li,lm,hw1,key,hs,hw]; tactic => (
      refine ih _ ?_
      (sym => simp [Qa,Qb,Qc,Qd,Qe,Qf,Qg,Qh,Qi,Qj,Qk,Ql,Qm,Qn,Qo,Qp,Qq,Qr,Qs,Qt,Qu,Qv,Qw,Qx,Qy,Qz,Q0,Q1,Q2,Q3,Q4,Q5,Q6,Q7,Q8,Q9,Xa,Xb,Xc,Xd,Xe,Xf,Xg,Xh,Xi,Xj,Xk,Xl,Xm,Xn,Xo,Xp,Xq,Xr,Xs,Xt,Xu,Xv,Xw,Xx,Xy,Xz,X0,X1,X2,X3,X4,X5,X6,X7,X8,X9,Ya,Yb,Yc,Yd,Ye,Yf,Yg,Yh,Yi,Yj,Yk,Yl,Ym,Yn,Yo,Yp,Yq,Yr,Ys,Yt,Yu,Yv,Yw,Yx,Yy,Yz,Y0,Y1,Y2,Y3,Y4,Y5,Y6,Y7,Y8,Y9,Za,Zb,Zc,Zd,Ze,Zf,Zg,Zh,Zi,Zj,Zk,Zl,Zm,Zn,Zo,Zp,Zq,Zr,Zs,Zt,Zu,Zv,Zw,Zx,Zy,Zz,Z0,Z1,Z2,Z3,Z4,Z5,Z6,Z7,Z8,Z9,Ja,Jb,Jc,Jd,Je,Jf,Jg,Jh,Ji,Jj,Jk,Jl,Jm,Jn,Jo,Jp,Jq,Jr,Js,Jt,Ju,Jv,Jw,Jx,Jy,Jz,J0,J1,J2,J3,J4,J5,J6,J7,J8,J9,Ka,Kb,Kc,Kd,Ke,Kf,Kg,Kh,Ki,Kj,Kk,Kl,Km,Kn,Ko,Kp,Kq,Kr,Ks,Kt,Ku,Kv,Kw,Kx,Ky,Kz,K0,K1,K2,K3,K4,K5,K6,K7,K8,K9,Ua,Ub,Uc,Ud,Ue,Uf,Ug,Uh,Ui,Uj,Uk,Ul,Um,Un,Uo,Up,Uq,Ur,Us,Ut,Uu,Uv,Uw,Ux,Uy,Uz,U0,U1,U2,U3,U4,U5,U6,U7,U8,U9,Va,Vb,Vc,Vd,Ve,Vf,Vg,Vh,Vi,Vj,Vk,Vl,Vm,Vn,Vo,Vp,Vq,Vr,Vs,Vt,Vu,Vv,Vw,Vx,Vy,Vz,V0,V1,V2,V3,V4,V5,V6,V7,V8,V9,Wa,Wb,Wc,Wd,We,Wf,Wg,Wh,Wi,Wj,Wk,Wl,Wm,Wn,Wo,Wp,Wq,Wr,Ws,Wt,Wu,Wv,Ww,Wx,Wy,Wz,W0,W1,W2,W3,W4,W5,W6,W7,W8,W9,Ha,Hb,Hc,Hd,He,Hf,Hg,Hh,Hi,Hj,Hk,Hl,Hm,Hn,Ho,Hp,Hq,Hr,Hs,Ht,Hu,Hv,Hw,Hx,Hy,Hz,H0,H1,H2,H3,H4,H5,H6,H7,H8,H9,Na,Nb,Nc,Nd,Ne,Nf,Ng,Nh,Ni,Nj,Nk,Nl,Nm,Nn,No,Np,Nq,Nr,Ns,Nt,Nu,Nv,Nw,Nx,Ny,Nz,N0,N1,N2,N3,N4,N5,N6,N7,N8,N9,Ba,Bb,Bc,Bd,Be,Bf,Bg,Bh,Bi,Bj,Bk,Bl,Bm,Bn,Bo,Bp,Bq,Br,Bs,Bt,Bu,Bv,Bw,Bx,By,Bz,BA,BB,BC,BD,BE,BF,BG,BH,BI,BJ,BK,BL,BM,BN,BO,BP,BQ,BR,BS,BT,BU,BV,BW,BX,BY,BZ,Ca,Cb,li,lm,hs])))
/-- The loop of a member's dropping. -/
theorem ord_loop3 (l : List (List AV)) (hP : ∀ i, ci = (i : Nat) → True) (kk : Int) (st5 : List AV) (ic : Nat) (hic : ci = (ic : Int)) (hl5 : (ic : Int) < P0.length) (hg5 : P0[ic]? = some st5) (h51 : ∃ a b c d, st5 = [a, .int .i64 kk, b, c, d]) (q3 : List (List AV)) (f3 : Bool) (last : Int) (may : List Int) (hlen : may.length = inn.length) : ∀ (m i : Nat), i + m = inn.length →
    aE G FT 0 lp_law28_MergeOrder_3 ⟨[(0, .data false 5 P0 f0), (3, .data false 3 q3 f3), (4, .own 0 0 0 inn.length inn.length), (5, .own 1 0 0 inn.length inn.length), (6, .int .i64 last), (7, .int .i64 ci), (16, .int .i64 i)], [⟨1, 0, true, ints inn⟩, ⟨1, 0, true, ints ((dropV kk inn may).take i ++ may.drop i)⟩]⟩ =
      some (.exit 7, ⟨[(0, .data false 5 P0 f0), (3, .data false 3 q3 f3), (4, .own 0 0 0 inn.length inn.length), (5, .own 1 0 0 inn.length inn.length), (6, .int .i64 last), (7, .int .i64 ci), (16, .int .i64 inn.length), (158, .bool false)], [⟨1, 0, true, ints inn⟩, ⟨1, 0, true, ints (dropV kk inn may)⟩]⟩) := by
  have dl : (dropV kk inn may).length = inn.length := by simp [dropV, hlen]
  obtain ⟨a, b, c, d, rfl⟩ := h51
  subst hic
  intro m
  induction m with
  | zero =>
    intro i hi
    obtain rfl : i = inn.length := by omega
    rw [lp_law28_MergeOrder_3, y_loop, List.take_of_length_le (by omega), List.drop_eq_nil_of_le (by omega), List.append_nil]
    have e0 : decide ((inn.length : Int) < inn.length) = false := by simp
    (sym => simp [Qa,Qb,Qc,Qd,Qe,Qf,Qg,Qh,Qi,Qj,Qk,Ql,Qm,Qn,Qo,Qp,Qq,Qr,Qs,Qt,Qu,Qv,Qw,Qx,Qy,Qz,Q0,Q1,Q2,Q3,Q4,Q5,Q6,Q7,Q8,Q9,Xa,Xb,Xc,Xd,Xe,Xf,Xg,Xh,Xi,Xj,Xk,Xl,Xm,Xn,Xo,Xp,Xq,Xr,Xs,Xt,Xu,Xv,Xw,Xx,Xy,Xz,X0,X1,X2,X3,X4,X5,X6,X7,X8,X9,Ya,Yb,Yc,Yd,Ye,Yf,Yg,Yh,Yi,Yj,Yk,Yl,Ym,Yn,Yo,Yp,Yq,Yr,Ys,Yt,Yu,Yv,Yw,Yx,Yy,Yz,Y0,Y1,Y2,Y3,Y4,Y5,Y6,Y7,Y8,Y9,Za,Zb,Zc,Zd,Ze,Zf,Zg,Zh,Zi,Zj,Zk,Zl,Zm,Zn,Zo,Zp,Zq,Zr,Zs,Zt,Zu,Zv,Zw,Zx,Zy,Zz,Z0,Z1,Z2,Z3,Z4,Z5,Z6,Z7,Z8,Z9,Ja,Jb,Jc,Jd,Je,Jf,Jg,Jh,Ji,Jj,Jk,Jl,Jm,Jn,Jo,Jp,Jq,Jr,Js,Jt,Ju,Jv,Jw,Jx,Jy,Jz,J0,J1,J2,J3,J4,J5,J6,J7,J8,J9,Ka,Kb,Kc,Kd,Ke,Kf,Kg,Kh,Ki,Kj,Kk,Kl,Km,Kn,Ko,Kp,Kq,Kr,Ks,Kt,Ku,Kv,Kw,Kx,Ky,Kz,K0,K1,K2,K3,K4,K5,K6,K7,K8,K9,Ua,Ub,Uc,Ud,Ue,Uf,Ug,Uh,Ui,Uj,Uk,Ul,Um,Un,Uo,Up,Uq,Ur,Us,Ut,Uu,Uv,Uw,Ux,Uy,Uz,U0,U1,U2,U3,U4,U5,U6,U7,U8,U9,Va,Vb,Vc,Vd,Ve,Vf,Vg,Vh,Vi,Vj,Vk,Vl,Vm,Vn,Vo,Vp,Vq,Vr,Vs,Vt,Vu,Vv,Vw,Vx,Vy,Vz,V0,V1,V2,V3,V4,V5,V6,V7,V8,V9,Wa,Wb,Wc,Wd,We,Wf,Wg,Wh,Wi,Wj,Wk,Wl,Wm,Wn,Wo,Wp,Wq,Wr,Ws,Wt,Wu,Wv,Ww,Wx,Wy,Wz,W0,W1,W2,W3,W4,W5,W6,W7,W8,W9,Ha,Hb,Hc,Hd,He,Hf,Hg,Hh,Hi,Hj,Hk,Hl,Hm,Hn,Ho,Hp,Hq,Hr,Hs,Ht,Hu,Hv,Hw,Hx,Hy,Hz,H0,H1,H2,H3,H4,H5,H6,H7,H8,H9,Na,Nb,Nc,Nd,Ne,Nf,Ng,Nh,Ni,Nj,Nk,Nl,Nm,Nn,No,Np,Nq,Nr,Ns,Nt,Nu,Nv,Nw,Nx,Ny,Nz,N0,N1,N2,N3,N4,N5,N6,N7,N8,N9,Ba,Bb,Bc,Bd,Be,Bf,Bg,Bh,Bi,Bj,Bk,Bl,Bm,Bn,Bo,Bp,Bq,Br,Bs,Bt,Bu,Bv,Bw,Bx,By,Bz,BA,BB,BC,BD,BE,BF,BG,BH,BI,BJ,BK,BL,BM,BN,BO,BP,BQ,BR,BS,BT,BU,BV,BW,BX,BY,BZ,Ca,Cb,q14R0.eq_1,q14R1.eq_1,q14R2.eq_1,q14R3.eq_1,q14R4.eq_1,q14R5.eq_1,q14R6.eq_1,q14R7.eq_1,q14R8.eq_1,q14R9.eq_1,q14R11.eq_1,q14R12.eq_1,q14R13.eq_1,q14R14.eq_1,q14R15.eq_1,q14R16.eq_1,q14R17.eq_1,q14R18.eq_1,q14R19.eq_1,q14R20.eq_1,q14R21.eq_1,q14R22.eq_1,q14R23.eq_1,q14R24.eq_1,q14R25.eq_1,q14R26.eq_1,q14R28.eq_1,q14R29.eq_1,q14R30.eq_1,q14R31.eq_1,q14R32.eq_1,q14R34.eq_1,q14R35.eq_1,q14R33.eq_1,q14R36.eq_1,q14R37.eq_1,q14R27.eq_1,q14R38.eq_1,q14R39.eq_1,q14R40.eq_1,q14R41.eq_1,q14R42.eq_1,q14R44.eq_1,q14R45.eq_1,q14R43.eq_1,q14R46.eq_1,q14R47.eq_1,q14R48.eq_1,q14R50.eq_1,q14R51.eq_1,q14R49.eq_1,q14R52.eq_1,q14R53.eq_1,q14R10.eq_1,q14R54.eq_1,c_law28_MergeOrder.eq_1,c_law28_MergeOrder_L3.eq_1,e0])
  | succ m ih =>
    intro i hi
    have ih := ih (i + 1) (by omega)
    have hii : i < inn.length := by omega
    have him : i < may.length := by omega
    have hid : i < (dropV kk inn may).length := by omega
    have hil' : (i : Int) < inn.length := by omega
    have dv : (dropV kk inn may)[i] = if inn[i] = kk ∧ may[i] = 1 then 0 else may[i] := by simp [dropV]
    have t1 : (dropV kk inn may).take (i + 1) = (dropV kk inn may).take i ++ [if inn[i] = kk ∧ may[i] = 1 then 0 else may[i]] := by rw [List.take_add_one, List.getElem?_eq_getElem hid, dv]; rfl
    have t2 : may.drop i = may[i] :: may.drop (i + 1) := List.drop_eq_getElem_cons him
    have tl : ((dropV kk inn may).take i).length = i := by rw [List.length_take]; omega
    rw [t1] at ih
    rw [t2]
    generalize (dropV kk inn may).take i = T at ih tl ⊢
    have hdl : (may.drop (i + 1)).length = inn.length - (i + 1) := by rw [List.length_drop, hlen]
    generalize may.drop (i + 1) = D at ih hdl ⊢
    have gi := ints_at hii
    have li : (ints inn).length = inn.length := ints_len inn
    have lm : (ints (T ++ may[i] :: D)).length = inn.length := by rw [ints_len]; simp; omega
    have gm : (ints (T ++ may[i] :: D))[i]? = some [.int .i64 may[i]] := by
      have : (T ++ may[i] :: D)[i]? = some may[i] := by rw [List.getElem?_append_right (by omega), tl, Nat.sub_self]; rfl
      rw [ints_get?, this]; rfl
    have hw := wrap_nat (n := i) (by omega)
    have hs : (ints (T ++ may[i] :: D)).set i [.int .i64 0] = ints (T ++ 0 :: D) := by rw [ints_set' inn hN, List.set_append_right _ _ (by omega), tl, Nat.sub_self]; rfl
    rw [lp_law28_MergeOrder_3] at ih
    rw [lp_law28_MergeOrder_3, y_loop]
    generalize may[i] = v at *
    by_cases h1 : inn[i] = kk
    · by_cases h2 : v = 1
      · subst h2
        rw [if_pos ⟨h1, rfl⟩, List.append_assoc, List.singleton_append] at ih
        rw [← ih]
        (sym => simp [Qa,Qb,Qc,Qd,Qe,Qf,Qg,Qh,Qi,Qj,Qk,Ql,Qm,Qn,Qo,Qp,Qq,Qr,Qs,Qt,Qu,Qv,Qw,Qx,Qy,Qz,Q0,Q1,Q2,Q3,Q4,Q5,Q6,Q7,Q8,Q9,Xa,Xb,Xc,Xd,Xe,Xf,Xg,Xh,Xi,Xj,Xk,Xl,Xm,Xn,Xo,Xp,Xq,Xr,Xs,Xt,Xu,Xv,Xw,Xx,Xy,Xz,X0,X1,X2,X3,X4,X5,X6,X7,X8,X9,Ya,Yb,Yc,Yd,Ye,Yf,Yg,Yh,Yi,Yj,Yk,Yl,Ym,Yn,Yo,Yp,Yq,Yr,Ys,Yt,Yu,Yv,Yw,Yx,Yy,Yz,Y0,Y1,Y2,Y3,Y4,Y5,Y6,Y7,Y8,Y9,Za,Zb,Zc,Zd,Ze,Zf,Zg,Zh,Zi,Zj,Zk,Zl,Zm,Zn,Zo,Zp,Zq,Zr,Zs,Zt,Zu,Zv,Zw,Zx,Zy,Zz,Z0,Z1,Z2,Z3,Z4,Z5,Z6,Z7,Z8,Z9,Ja,Jb,Jc,Jd,Je,Jf,Jg,Jh,Ji,Jj,Jk,Jl,Jm,Jn,Jo,Jp,Jq,Jr,Js,Jt,Ju,Jv,Jw,Jx,Jy,Jz,J0,J1,J2,J3,J4,J5,J6,J7,J8,J9,Ka,Kb,Kc,Kd,Ke,Kf,Kg,Kh,Ki,Kj,Kk,Kl,Km,Kn,Ko,Kp,Kq,Kr,Ks,Kt,Ku,Kv,Kw,Kx,Ky,Kz,K0,K1,K2,K3,K4,K5,K6,K7,K8,K9,Ua,Ub,Uc,Ud,Ue,Uf,Ug,Uh,Ui,Uj,Uk,Ul,Um,Un,Uo,Up,Uq,Ur,Us,Ut,Uu,Uv,Uw,Ux,Uy,Uz,U0,U1,U2,U3,U4,U5,U6,U7,U8,U9,Va,Vb,Vc,Vd,Ve,Vf,Vg,Vh,Vi,Vj,Vk,Vl,Vm,Vn,Vo,Vp,Vq,Vr,Vs,Vt,Vu,Vv,Vw,Vx,Vy,Vz,V0,V1,V2,V3,V4,V5,V6,V7,V8,V9,Wa,Wb,Wc,Wd,We,Wf,Wg,Wh,Wi,Wj,Wk,Wl,Wm,Wn,Wo,Wp,Wq,Wr,Ws,Wt,Wu,Wv,Ww,Wx,Wy,Wz,W0,W1,W2,W3,W4,W5,W6,W7,W8,W9,Ha,Hb,Hc,Hd,He,Hf,Hg,Hh,Hi,Hj,Hk,Hl,Hm,Hn,Ho,Hp,Hq,Hr,Hs,Ht,Hu,Hv,Hw,Hx,Hy,Hz,H0,H1,H2,H3,H4,H5,H6,H7,H8,H9,Na,Nb,Nc,Nd,Ne,Nf,Ng,Nh,Ni,Nj,Nk,Nl,Nm,Nn,No,Np,Nq,Nr,Ns,Nt,Nu,Nv,Nw,Nx,Ny,Nz,N0,N1,N2,N3,N4,N5,N6,N7,N8,N9,Ba,Bb,Bc,Bd,Be,Bf,Bg,Bh,Bi,Bj,Bk,Bl,Bm,Bn,Bo,Bp,Bq,Br,Bs,Bt,Bu,Bv,Bw,Bx,By,Bz,BA,BB,BC,BD,BE,BF,BG,BH,BI,BJ,BK,BL,BM,BN,BO,BP,BQ,BR,BS,BT,BU,BV,BW,BX,BY,BZ,Ca,Cb,q14R0.eq_1,q14R1.eq_1,q14R2.eq_1,q14R3.eq_1,q14R4.eq_1,q14R5.eq_1,q14R6.eq_1,q14R7.eq_1,q14R8.eq_1,q14R9.eq_1,q14R11.eq_1,q14R12.eq_1,q14R13.eq_1,q14R14.eq_1,q14R15.eq_1,q14R16.eq_1,q14R17.eq_1,q14R18.eq_1,q14R19.eq_1,q14R20.eq_1,q14R21.eq_1,q14R22.eq_1,q14R23.eq_1,q14R24.eq_1,q14R25.eq_1,q14R26.eq_1,q14R28.eq_1,q14R29.eq_1,q14R30.eq_1,q14R31.eq_1,q14R32.eq_1,q14R34.eq_1,q14R35.eq_1,q14R33.eq_1,q14R36.eq_1,q14R37.eq_1,q14R27.eq_1,q14R38.eq_1,q14R39.eq_1,q14R40.eq_1,q14R41.eq_1,q14R42.eq_1,q14R44.eq_1,q14R45.eq_1,q14R43.eq_1,q14R46.eq_1,q14R47.eq_1,q14R48.eq_1,q14R50.eq_1,q14R51.eq_1,q14R49.eq_1,q14R52.eq_1,q14R53.eq_1,q14R10.eq_1,q14R54.eq_1,c_law28_MergeOrder.eq_1,c_law28_MergeOrder_L3.eq_1,hil',gi,li,lm,gm,hw,hs,h1,hl5,hg5])
      · rw [if_neg (fun h => h2 h.2), List.append_assoc, List.singleton_append] at ih
        rw [← ih]
        (sym => simp [Qa,Qb,Qc,Qd,Qe,Qf,Qg,Qh,Qi,Qj,Qk,Ql,Qm,Qn,Qo,Qp,Qq,Qr,Qs,Qt,Qu,Qv,Qw,Qx,Qy,Qz,Q0,Q1,Q2,Q3,Q4,Q5,Q6,Q7,Q8,Q9,Xa,Xb,Xc,Xd,Xe,Xf,Xg,Xh,Xi,Xj,Xk,Xl,Xm,Xn,Xo,Xp,Xq,Xr,Xs,Xt,Xu,Xv,Xw,Xx,Xy,Xz,X0,X1,X2,X3,X4,X5,X6,X7,X8,X9,Ya,Yb,Yc,Yd,Ye,Yf,Yg,Yh,Yi,Yj,Yk,Yl,Ym,Yn,Yo,Yp,Yq,Yr,Ys,Yt,Yu,Yv,Yw,Yx,Yy,Yz,Y0,Y1,Y2,Y3,Y4,Y5,Y6,Y7,Y8,Y9,Za,Zb,Zc,Zd,Ze,Zf,Zg,Zh,Zi,Zj,Zk,Zl,Zm,Zn,Zo,Zp,Zq,Zr,Zs,Zt,Zu,Zv,Zw,Zx,Zy,Zz,Z0,Z1,Z2,Z3,Z4,Z5,Z6,Z7,Z8,Z9,Ja,Jb,Jc,Jd,Je,Jf,Jg,Jh,Ji,Jj,Jk,Jl,Jm,Jn,Jo,Jp,Jq,Jr,Js,Jt,Ju,Jv,Jw,Jx,Jy,Jz,J0,J1,J2,J3,J4,J5,J6,J7,J8,J9,Ka,Kb,Kc,Kd,Ke,Kf,Kg,Kh,Ki,Kj,Kk,Kl,Km,Kn,Ko,Kp,Kq,Kr,Ks,Kt,Ku,Kv,Kw,Kx,Ky,Kz,K0,K1,K2,K3,K4,K5,K6,K7,K8,K9,Ua,Ub,Uc,Ud,Ue,Uf,Ug,Uh,Ui,Uj,Uk,Ul,Um,Un,Uo,Up,Uq,Ur,Us,Ut,Uu,Uv,Uw,Ux,Uy,Uz,U0,U1,U2,U3,U4,U5,U6,U7,U8,U9,Va,Vb,Vc,Vd,Ve,Vf,Vg,Vh,Vi,Vj,Vk,Vl,Vm,Vn,Vo,Vp,Vq,Vr,Vs,Vt,Vu,Vv,Vw,Vx,Vy,Vz,V0,V1,V2,V3,V4,V5,V6,V7,V8,V9,Wa,Wb,Wc,Wd,We,Wf,Wg,Wh,Wi,Wj,Wk,Wl,Wm,Wn,Wo,Wp,Wq,Wr,Ws,Wt,Wu,Wv,Ww,Wx,Wy,Wz,W0,W1,W2,W3,W4,W5,W6,W7,W8,W9,Ha,Hb,Hc,Hd,He,Hf,Hg,Hh,Hi,Hj,Hk,Hl,Hm,Hn,Ho,Hp,Hq,Hr,Hs,Ht,Hu,Hv,Hw,Hx,Hy,Hz,H0,H1,H2,H3,H4,H5,H6,H7,H8,H9,Na,Nb,Nc,Nd,Ne,Nf,Ng,Nh,Ni,Nj,Nk,Nl,Nm,Nn,No,Np,Nq,Nr,Ns,Nt,Nu,Nv,Nw,Nx,Ny,Nz,N0,N1,N2,N3,N4,N5,N6,N7,N8,N9,Ba,Bb,Bc,Bd,Be,Bf,Bg,Bh,Bi,Bj,Bk,Bl,Bm,Bn,Bo,Bp,Bq,Br,Bs,Bt,Bu,Bv,Bw,Bx,By,Bz,BA,BB,BC,BD,BE,BF,BG,BH,BI,BJ,BK,BL,BM,BN,BO,BP,BQ,BR,BS,BT,BU,BV,BW,BX,BY,BZ,Ca,Cb,q14R0.eq_1,q14R1.eq_1,q14R2.eq_1,q14R3.eq_1,q14R4.eq_1,q14R5.eq_1,q14R6.eq_1,q14R7.eq_1,q14R8.eq_1,q14R9.eq_1,q14R11.eq_1,q14R12.eq_1,q14R13.eq_1,q14R14.eq_1,q14R15.eq_1,q14R16.eq_1,q14R17.eq_1,q14R18.eq_1,q14R19.eq_1,q14R20.eq_1,q14R21.eq_1,q14R22.eq_1,q14R23.eq_1,q14R24.eq_1,q14R25.eq_1,q14R26.eq_1,q14R28.eq_1,q14R29.eq_1,q14R30.eq_1,q14R31.eq_1,q14R32.eq_1,q14R34.eq_1,q14R35.eq_1,q14R33.eq_1,q14R36.eq_1,q14R37.eq_1,q14R27.eq_1,q14R38.eq_1,q14R39.eq_1,q14R40.eq_1,q14R41.eq_1,q14R42.eq_1,q14R44.eq_1,q14R45.eq_1,q14R43.eq_1,q14R46.eq_1,q14R47.eq_1,q14R48.eq_1,q14R50.eq_1,q14R51.eq_1,q14R49.eq_1,q14R52.eq_1,q14R53.eq_1,q14R10.eq_1,q14R54.eq_1,c_law28_MergeOrder.eq_1,c_law28_MergeOrder_L3.eq_1,hil',gi,li,lm,gm,hw,hs,h1,h2,hl5,hg5])
    · rw [if_neg (fun h => h1 h.1), List.append_assoc, List.singleton_append] at ih
      rw [← ih]
      (sym => simp [Qa,Qb,Qc,Qd,Qe,Qf,Qg,Qh,Qi,Qj,Qk,Ql,Qm,Qn,Qo,Qp,Qq,Qr,Qs,Qt,Qu,Qv,Qw,Qx,Qy,Qz,Q0,Q1,Q2,Q3,Q4,Q5,Q6,Q7,Q8,Q9,Xa,Xb,Xc,Xd,Xe,Xf,Xg,Xh,Xi,Xj,Xk,Xl,Xm,Xn,Xo,Xp,Xq,Xr,Xs,Xt,Xu,Xv,Xw,Xx,Xy,Xz,X0,X1,X2,X3,X4,X5,X6,X7,X8,X9,Ya,Yb,Yc,Yd,Ye,Yf,Yg,Yh,Yi,Yj,Yk,Yl,Ym,Yn,Yo,Yp,Yq,Yr,Ys,Yt,Yu,Yv,Yw,Yx,Yy,Yz,Y0,Y1,Y2,Y3,Y4,Y5,Y6,Y7,Y8,Y9,Za,Zb,Zc,Zd,Ze,Zf,Zg,Zh,Zi,Zj,Zk,Zl,Zm,Zn,Zo,Zp,Zq,Zr,Zs,Zt,Zu,Zv,Zw,Zx,Zy,Zz,Z0,Z1,Z2,Z3,Z4,Z5,Z6,Z7,Z8,Z9,Ja,Jb,Jc,Jd,Je,Jf,Jg,Jh,Ji,Jj,Jk,Jl,Jm,Jn,Jo,Jp,Jq,Jr,Js,Jt,Ju,Jv,Jw,Jx,Jy,Jz,J0,J1,J2,J3,J4,J5,J6,J7,J8,J9,Ka,Kb,Kc,Kd,Ke,Kf,Kg,Kh,Ki,Kj,Kk,Kl,Km,Kn,Ko,Kp,Kq,Kr,Ks,Kt,Ku,Kv,Kw,Kx,Ky,Kz,K0,K1,K2,K3,K4,K5,K6,K7,K8,K9,Ua,Ub,Uc,Ud,Ue,Uf,Ug,Uh,Ui,Uj,Uk,Ul,Um,Un,Uo,Up,Uq,Ur,Us,Ut,Uu,Uv,Uw,Ux,Uy,Uz,U0,U1,U2,U3,U4,U5,U6,U7,U8,U9,Va,Vb,Vc,Vd,Ve,Vf,Vg,Vh,Vi,Vj,Vk,Vl,Vm,Vn,Vo,Vp,Vq,Vr,Vs,Vt,Vu,Vv,Vw,Vx,Vy,Vz,V0,V1,V2,V3,V4,V5,V6,V7,V8,V9,Wa,Wb,Wc,Wd,We,Wf,Wg,Wh,Wi,Wj,Wk,Wl,Wm,Wn,Wo,Wp,Wq,Wr,Ws,Wt,Wu,Wv,Ww,Wx,Wy,Wz,W0,W1,W2,W3,W4,W5,W6,W7,W8,W9,Ha,Hb,Hc,Hd,He,Hf,Hg,Hh,Hi,Hj,Hk,Hl,Hm,Hn,Ho,Hp,Hq,Hr,Hs,Ht,Hu,Hv,Hw,Hx,Hy,Hz,H0,H1,H2,H3,H4,H5,H6,H7,H8,H9,Na,Nb,Nc,Nd,Ne,Nf,Ng,Nh,Ni,Nj,Nk,Nl,Nm,Nn,No,Np,Nq,Nr,Ns,Nt,Nu,Nv,Nw,Nx,Ny,Nz,N0,N1,N2,N3,N4,N5,N6,N7,N8,N9,Ba,Bb,Bc,Bd,Be,Bf,Bg,Bh,Bi,Bj,Bk,Bl,Bm,Bn,Bo,Bp,Bq,Br,Bs,Bt,Bu,Bv,Bw,Bx,By,Bz,BA,BB,BC,BD,BE,BF,BG,BH,BI,BJ,BK,BL,BM,BN,BO,BP,BQ,BR,BS,BT,BU,BV,BW,BX,BY,BZ,Ca,Cb,q14R0.eq_1,q14R1.eq_1,q14R2.eq_1,q14R3.eq_1,q14R4.eq_1,q14R5.eq_1,q14R6.eq_1,q14R7.eq_1,q14R8.eq_1,q14R9.eq_1,q14R11.eq_1,q14R12.eq_1,q14R13.eq_1,q14R14.eq_1,q14R15.eq_1,q14R16.eq_1,q14R17.eq_1,q14R18.eq_1,q14R19.eq_1,q14R20.eq_1,q14R21.eq_1,q14R22.eq_1,q14R23.eq_1,q14R24.eq_1,q14R25.eq_1,q14R26.eq_1,q14R28.eq_1,q14R29.eq_1,q14R30.eq_1,q14R31.eq_1,q14R32.eq_1,q14R34.eq_1,q14R35.eq_1,q14R33.eq_1,q14R36.eq_1,q14R37.eq_1,q14R27.eq_1,q14R38.eq_1,q14R39.eq_1,q14R40.eq_1,q14R41.eq_1,q14R42.eq_1,q14R44.eq_1,q14R45.eq_1,q14R43.eq_1,q14R46.eq_1,q14R47.eq_1,q14R48.eq_1,q14R50.eq_1,q14R51.eq_1,q14R49.eq_1,q14R52.eq_1,q14R53.eq_1,q14R10.eq_1,q14R54.eq_1,c_law28_MergeOrder.eq_1,c_law28_MergeOrder_L3.eq_1,hil',gi,li,lm,gm,hw,hs,h1,hl5,hg5])
theorem cnt1_take (may : List Int) {i : Nat} (h : i < may.length) : cnt1 (may.take (i + 1)) = cnt1 (may.take i) + if may[i] = 1 then 1 else 0 := by
  have : may.take (i + 1) = may.take i ++ [may[i]] := by rw [List.take_add_one, List.getElem?_eq_getElem h]; rfl
  rw [this, cnt1, cnt1, List.filter_append, List.length_append]
  by_cases hx : may[i] = 1 <;> simp [hx]
theorem ord_loop4 (q3 : List (List AV)) (f3 : Bool) (last : Int) (may : List Int) (hlen : may.length = inn.length) : ∀ (m i : Nat), i + m = inn.length →
    aE G FT 0 lp_law28_MergeOrder_4 ⟨[(0, .data false 5 P0 f0), (3, .data false 3 q3 f3), (4, .own 0 0 0 inn.length inn.length), (5, .own 1 0 0 inn.length inn.length), (6, .int .i64 last), (7, .int .i64 ci), (17, .int .i64 (cnt1 (may.take i))), (18, .int .i64 i)], [⟨1, 0, true, ints inn⟩, ⟨1, 0, true, ints may⟩]⟩ =
      some (.exit 9, ⟨[(0, .data false 5 P0 f0), (3, .data false 3 q3 f3), (4, .own 0 0 0 inn.length inn.length), (5, .own 1 0 0 inn.length inn.length), (6, .int .i64 last), (7, .int .i64 ci), (17, .int .i64 (cnt1 may)), (18, .int .i64 inn.length), (184, .bool false)], [⟨1, 0, true, ints inn⟩, ⟨1, 0, true, ints may⟩]⟩) := by
  intro m
  induction m with
  | zero =>
    intro i hi
    obtain rfl : i = inn.length := by omega
    rw [lp_law28_MergeOrder_4, y_loop, List.take_of_length_le (by omega)]
    have e0 : decide ((inn.length : Int) < inn.length) = false := by simp
    (sym => simp [Qa,Qb,Qc,Qd,Qe,Qf,Qg,Qh,Qi,Qj,Qk,Ql,Qm,Qn,Qo,Qp,Qq,Qr,Qs,Qt,Qu,Qv,Qw,Qx,Qy,Qz,Q0,Q1,Q2,Q3,Q4,Q5,Q6,Q7,Q8,Q9,Xa,Xb,Xc,Xd,Xe,Xf,Xg,Xh,Xi,Xj,Xk,Xl,Xm,Xn,Xo,Xp,Xq,Xr,Xs,Xt,Xu,Xv,Xw,Xx,Xy,Xz,X0,X1,X2,X3,X4,X5,X6,X7,X8,X9,Ya,Yb,Yc,Yd,Ye,Yf,Yg,Yh,Yi,Yj,Yk,Yl,Ym,Yn,Yo,Yp,Yq,Yr,Ys,Yt,Yu,Yv,Yw,Yx,Yy,Yz,Y0,Y1,Y2,Y3,Y4,Y5,Y6,Y7,Y8,Y9,Za,Zb,Zc,Zd,Ze,Zf,Zg,Zh,Zi,Zj,Zk,Zl,Zm,Zn,Zo,Zp,Zq,Zr,Zs,Zt,Zu,Zv,Zw,Zx,Zy,Zz,Z0,Z1,Z2,Z3,Z4,Z5,Z6,Z7,Z8,Z9,Ja,Jb,Jc,Jd,Je,Jf,Jg,Jh,Ji,Jj,Jk,Jl,Jm,Jn,Jo,Jp,Jq,Jr,Js,Jt,Ju,Jv,Jw,Jx,Jy,Jz,J0,J1,J2,J3,J4,J5,J6,J7,J8,J9,Ka,Kb,Kc,Kd,Ke,Kf,Kg,Kh,Ki,Kj,Kk,Kl,Km,Kn,Ko,Kp,Kq,Kr,Ks,Kt,Ku,Kv,Kw,Kx,Ky,Kz,K0,K1,K2,K3,K4,K5,K6,K7,K8,K9,Ua,Ub,Uc,Ud,Ue,Uf,Ug,Uh,Ui,Uj,Uk,Ul,Um,Un,Uo,Up,Uq,Ur,Us,Ut,Uu,Uv,Uw,Ux,Uy,Uz,U0,U1,U2,U3,U4,U5,U6,U7,U8,U9,Va,Vb,Vc,Vd,Ve,Vf,Vg,Vh,Vi,Vj,Vk,Vl,Vm,Vn,Vo,Vp,Vq,Vr,Vs,Vt,Vu,Vv,Vw,Vx,Vy,Vz,V0,V1,V2,V3,V4,V5,V6,V7,V8,V9,Wa,Wb,Wc,Wd,We,Wf,Wg,Wh,Wi,Wj,Wk,Wl,Wm,Wn,Wo,Wp,Wq,Wr,Ws,Wt,Wu,Wv,Ww,Wx,Wy,Wz,W0,W1,W2,W3,W4,W5,W6,W7,W8,W9,Ha,Hb,Hc,Hd,He,Hf,Hg,Hh,Hi,Hj,Hk,Hl,Hm,Hn,Ho,Hp,Hq,Hr,Hs,Ht,Hu,Hv,Hw,Hx,Hy,Hz,H0,H1,H2,H3,H4,H5,H6,H7,H8,H9,Na,Nb,Nc,Nd,Ne,Nf,Ng,Nh,Ni,Nj,Nk,Nl,Nm,Nn,No,Np,Nq,Nr,Ns,Nt,Nu,Nv,Nw,Nx,Ny,Nz,N0,N1,N2,N3,N4,N5,N6,N7,N8,N9,Ba,Bb,Bc,Bd,Be,Bf,Bg,Bh,Bi,Bj,Bk,Bl,Bm,Bn,Bo,Bp,Bq,Br,Bs,Bt,Bu,Bv,Bw,Bx,By,Bz,BA,BB,BC,BD,BE,BF,BG,BH,BI,BJ,BK,BL,BM,BN,BO,BP,BQ,BR,BS,BT,BU,BV,BW,BX,BY,BZ,Ca,Cb,q14R0.eq_1,q14R1.eq_1,q14R2.eq_1,q14R3.eq_1,q14R4.eq_1,q14R5.eq_1,q14R6.eq_1,q14R7.eq_1,q14R8.eq_1,q14R9.eq_1,q14R11.eq_1,q14R12.eq_1,q14R13.eq_1,q14R14.eq_1,q14R15.eq_1,q14R16.eq_1,q14R17.eq_1,q14R18.eq_1,q14R19.eq_1,q14R20.eq_1,q14R21.eq_1,q14R22.eq_1,q14R23.eq_1,q14R24.eq_1,q14R25.eq_1,q14R26.eq_1,q14R28.eq_1,q14R29.eq_1,q14R30.eq_1,q14R31.eq_1,q14R32.eq_1,q14R34.eq_1,q14R35.eq_1,q14R33.eq_1,q14R36.eq_1,q14R37.eq_1,q14R27.eq_1,q14R38.eq_1,q14R39.eq_1,q14R40.eq_1,q14R41.eq_1,q14R42.eq_1,q14R44.eq_1,q14R45.eq_1,q14R43.eq_1,q14R46.eq_1,q14R47.eq_1,q14R48.eq_1,q14R50.eq_1,q14R51.eq_1,q14R49.eq_1,q14R52.eq_1,q14R53.eq_1,q14R10.eq_1,q14R54.eq_1,c_law28_MergeOrder.eq_1,c_law28_MergeOrder_L4.eq_1,e0])
  | succ m ih =>
    intro i hi
    have ih := ih (i + 1) (by omega)
    have him : i < may.length := by omega
    have hil' : (i : Int) < inn.length := by omega
    have lm : (ints may).length = inn.length := by rw [ints_len, hlen]
    have gm := ints_at him
    have hw := wrap_nat (n := i) (by omega)
    have hc : cnt1 (may.take i) ≤ 1000 := by
      have := List.length_filter_le (fun x => decide (x = 1)) (may.take i)
      unfold cnt1; rw [List.length_take] at this; omega
    rw [cnt1_take inn hN may him] at ih
    rw [lp_law28_MergeOrder_4] at ih
    rw [lp_law28_MergeOrder_4, y_loop]
    generalize cnt1 (may.take i) = n at ih hc ⊢
    have hwn := wrap_nat (n := n) (by omega)
    by_cases h1 : may[i] = 1
    · rw [if_pos h1] at ih
      rw [← ih]
      (sym => simp [Qa,Qb,Qc,Qd,Qe,Qf,Qg,Qh,Qi,Qj,Qk,Ql,Qm,Qn,Qo,Qp,Qq,Qr,Qs,Qt,Qu,Qv,Qw,Qx,Qy,Qz,Q0,Q1,Q2,Q3,Q4,Q5,Q6,Q7,Q8,Q9,Xa,Xb,Xc,Xd,Xe,Xf,Xg,Xh,Xi,Xj,Xk,Xl,Xm,Xn,Xo,Xp,Xq,Xr,Xs,Xt,Xu,Xv,Xw,Xx,Xy,Xz,X0,X1,X2,X3,X4,X5,X6,X7,X8,X9,Ya,Yb,Yc,Yd,Ye,Yf,Yg,Yh,Yi,Yj,Yk,Yl,Ym,Yn,Yo,Yp,Yq,Yr,Ys,Yt,Yu,Yv,Yw,Yx,Yy,Yz,Y0,Y1,Y2,Y3,Y4,Y5,Y6,Y7,Y8,Y9,Za,Zb,Zc,Zd,Ze,Zf,Zg,Zh,Zi,Zj,Zk,Zl,Zm,Zn,Zo,Zp,Zq,Zr,Zs,Zt,Zu,Zv,Zw,Zx,Zy,Zz,Z0,Z1,Z2,Z3,Z4,Z5,Z6,Z7,Z8,Z9,Ja,Jb,Jc,Jd,Je,Jf,Jg,Jh,Ji,Jj,Jk,Jl,Jm,Jn,Jo,Jp,Jq,Jr,Js,Jt,Ju,Jv,Jw,Jx,Jy,Jz,J0,J1,J2,J3,J4,J5,J6,J7,J8,J9,Ka,Kb,Kc,Kd,Ke,Kf,Kg,Kh,Ki,Kj,Kk,Kl,Km,Kn,Ko,Kp,Kq,Kr,Ks,Kt,Ku,Kv,Kw,Kx,Ky,Kz,K0,K1,K2,K3,K4,K5,K6,K7,K8,K9,Ua,Ub,Uc,Ud,Ue,Uf,Ug,Uh,Ui,Uj,Uk,Ul,Um,Un,Uo,Up,Uq,Ur,Us,Ut,Uu,Uv,Uw,Ux,Uy,Uz,U0,U1,U2,U3,U4,U5,U6,U7,U8,U9,Va,Vb,Vc,Vd,Ve,Vf,Vg,Vh,Vi,Vj,Vk,Vl,Vm,Vn,Vo,Vp,Vq,Vr,Vs,Vt,Vu,Vv,Vw,Vx,Vy,Vz,V0,V1,V2,V3,V4,V5,V6,V7,V8,V9,Wa,Wb,Wc,Wd,We,Wf,Wg,Wh,Wi,Wj,Wk,Wl,Wm,Wn,Wo,Wp,Wq,Wr,Ws,Wt,Wu,Wv,Ww,Wx,Wy,Wz,W0,W1,W2,W3,W4,W5,W6,W7,W8,W9,Ha,Hb,Hc,Hd,He,Hf,Hg,Hh,Hi,Hj,Hk,Hl,Hm,Hn,Ho,Hp,Hq,Hr,Hs,Ht,Hu,Hv,Hw,Hx,Hy,Hz,H0,H1,H2,H3,H4,H5,H6,H7,H8,H9,Na,Nb,Nc,Nd,Ne,Nf,Ng,Nh,Ni,Nj,Nk,Nl,Nm,Nn,No,Np,Nq,Nr,Ns,Nt,Nu,Nv,Nw,Nx,Ny,Nz,N0,N1,N2,N3,N4,N5,N6,N7,N8,N9,Ba,Bb,Bc,Bd,Be,Bf,Bg,Bh,Bi,Bj,Bk,Bl,Bm,Bn,Bo,Bp,Bq,Br,Bs,Bt,Bu,Bv,Bw,Bx,By,Bz,BA,BB,BC,BD,BE,BF,BG,BH,BI,BJ,BK,BL,BM,BN,BO,BP,BQ,BR,BS,BT,BU,BV,BW,BX,BY,BZ,Ca,Cb,q14R0.eq_1,q14R1.eq_1,q14R2.eq_1,q14R3.eq_1,q14R4.eq_1,q14R5.eq_1,q14R6.eq_1,q14R7.eq_1,q14R8.eq_1,q14R9.eq_1,q14R11.eq_1,q14R12.eq_1,q14R13.eq_1,q14R14.eq_1,q14R15.eq_1,q14R16.eq_1,q14R17.eq_1,q14R18.eq_1,q14R19.eq_1,q14R20.eq_1,q14R21.eq_1,q14R22.eq_1,q14R23.eq_1,q14R24.eq_1,q14R25.eq_1,q14R26.eq_1,q14R28.eq_1,q14R29.eq_1,q14R30.eq_1,q14R31.eq_1,q14R32.eq_1,q14R34.eq_1,q14R35.eq_1,q14R33.eq_1,q14R36.eq_1,q14R37.eq_1,q14R27.eq_1,q14R38.eq_1,q14R39.eq_1,q14R40.eq_1,q14R41.eq_1,q14R42.eq_1,q14R44.eq_1,q14R45.eq_1,q14R43.eq_1,q14R46.eq_1,q14R47.eq_1,q14R48.eq_1,q14R50.eq_1,q14R51.eq_1,q14R49.eq_1,q14R52.eq_1,q14R53.eq_1,q14R10.eq_1,q14R54.eq_1,c_law28_MergeOrder.eq_1,c_law28_MergeOrder_L4.eq_1,hil',lm,gm,hw,hwn,h1])
    · rw [if_neg h1, Nat.add_zero] at ih
      rw [← ih]
      (sym => simp [Qa,Qb,Qc,Qd,Qe,Qf,Qg,Qh,Qi,Qj,Qk,Ql,Qm,Qn,Qo,Qp,Qq,Qr,Qs,Qt,Qu,Qv,Qw,Qx,Qy,Qz,Q0,Q1,Q2,Q3,Q4,Q5,Q6,Q7,Q8,Q9,Xa,Xb,Xc,Xd,Xe,Xf,Xg,Xh,Xi,Xj,Xk,Xl,Xm,Xn,Xo,Xp,Xq,Xr,Xs,Xt,Xu,Xv,Xw,Xx,Xy,Xz,X0,X1,X2,X3,X4,X5,X6,X7,X8,X9,Ya,Yb,Yc,Yd,Ye,Yf,Yg,Yh,Yi,Yj,Yk,Yl,Ym,Yn,Yo,Yp,Yq,Yr,Ys,Yt,Yu,Yv,Yw,Yx,Yy,Yz,Y0,Y1,Y2,Y3,Y4,Y5,Y6,Y7,Y8,Y9,Za,Zb,Zc,Zd,Ze,Zf,Zg,Zh,Zi,Zj,Zk,Zl,Zm,Zn,Zo,Zp,Zq,Zr,Zs,Zt,Zu,Zv,Zw,Zx,Zy,Zz,Z0,Z1,Z2,Z3,Z4,Z5,Z6,Z7,Z8,Z9,Ja,Jb,Jc,Jd,Je,Jf,Jg,Jh,Ji,Jj,Jk,Jl,Jm,Jn,Jo,Jp,Jq,Jr,Js,Jt,Ju,Jv,Jw,Jx,Jy,Jz,J0,J1,J2,J3,J4,J5,J6,J7,J8,J9,Ka,Kb,Kc,Kd,Ke,Kf,Kg,Kh,Ki,Kj,Kk,Kl,Km,Kn,Ko,Kp,Kq,Kr,Ks,Kt,Ku,Kv,Kw,Kx,Ky,Kz,K0,K1,K2,K3,K4,K5,K6,K7,K8,K9,Ua,Ub,Uc,Ud,Ue,Uf,Ug,Uh,Ui,Uj,Uk,Ul,Um,Un,Uo,Up,Uq,Ur,Us,Ut,Uu,Uv,Uw,Ux,Uy,Uz,U0,U1,U2,U3,U4,U5,U6,U7,U8,U9,Va,Vb,Vc,Vd,Ve,Vf,Vg,Vh,Vi,Vj,Vk,Vl,Vm,Vn,Vo,Vp,Vq,Vr,Vs,Vt,Vu,Vv,Vw,Vx,Vy,Vz,V0,V1,V2,V3,V4,V5,V6,V7,V8,V9,Wa,Wb,Wc,Wd,We,Wf,Wg,Wh,Wi,Wj,Wk,Wl,Wm,Wn,Wo,Wp,Wq,Wr,Ws,Wt,Wu,Wv,Ww,Wx,Wy,Wz,W0,W1,W2,W3,W4,W5,W6,W7,W8,W9,Ha,Hb,Hc,Hd,He,Hf,Hg,Hh,Hi,Hj,Hk,Hl,Hm,Hn,Ho,Hp,Hq,Hr,Hs,Ht,Hu,Hv,Hw,Hx,Hy,Hz,H0,H1,H2,H3,H4,H5,H6,H7,H8,H9,Na,Nb,Nc,Nd,Ne,Nf,Ng,Nh,Ni,Nj,Nk,Nl,Nm,Nn,No,Np,Nq,Nr,Ns,Nt,Nu,Nv,Nw,Nx,Ny,Nz,N0,N1,N2,N3,N4,N5,N6,N7,N8,N9,Ba,Bb,Bc,Bd,Be,Bf,Bg,Bh,Bi,Bj,Bk,Bl,Bm,Bn,Bo,Bp,Bq,Br,Bs,Bt,Bu,Bv,Bw,Bx,By,Bz,BA,BB,BC,BD,BE,BF,BG,BH,BI,BJ,BK,BL,BM,BN,BO,BP,BQ,BR,BS,BT,BU,BV,BW,BX,BY,BZ,Ca,Cb,q14R0.eq_1,q14R1.eq_1,q14R2.eq_1,q14R3.eq_1,q14R4.eq_1,q14R5.eq_1,q14R6.eq_1,q14R7.eq_1,q14R8.eq_1,q14R9.eq_1,q14R11.eq_1,q14R12.eq_1,q14R13.eq_1,q14R14.eq_1,q14R15.eq_1,q14R16.eq_1,q14R17.eq_1,q14R18.eq_1,q14R19.eq_1,q14R20.eq_1,q14R21.eq_1,q14R22.eq_1,q14R23.eq_1,q14R24.eq_1,q14R25.eq_1,q14R26.eq_1,q14R28.eq_1,q14R29.eq_1,q14R30.eq_1,q14R31.eq_1,q14R32.eq_1,q14R34.eq_1,q14R35.eq_1,q14R33.eq_1,q14R36.eq_1,q14R37.eq_1,q14R27.eq_1,q14R38.eq_1,q14R39.eq_1,q14R40.eq_1,q14R41.eq_1,q14R42.eq_1,q14R44.eq_1,q14R45.eq_1,q14R43.eq_1,q14R46.eq_1,q14R47.eq_1,q14R48.eq_1,q14R50.eq_1,q14R51.eq_1,q14R49.eq_1,q14R52.eq_1,q14R53.eq_1,q14R10.eq_1,q14R54.eq_1,c_law28_MergeOrder.eq_1,c_law28_MergeOrder_L4.eq_1,hil',lm,gm,hw,h1])
end
end Go.Proofs.Ytfnonledcniojaa
