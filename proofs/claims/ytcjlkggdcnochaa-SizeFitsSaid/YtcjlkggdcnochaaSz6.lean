/- SizeFits: the law. Conditions: as each statement says. -/
import Derived.Test.YtcjlkggdcnochaaSz5
import Derived.Test.YtcjlkggdcnochaaM3
set_option linter.unusedVariables false
set_option linter.unusedSimpArgs false
set_option linter.unusedSectionVars false
set_option maxRecDepth 20000
set_option maxHeartbeats 2000000
namespace Go.Proofs.Ytcjlkggdcnochaa
open Go
variable (G : Nat → Option (List AV))
theorem fits_P (w : Nat → Int × Int) (l : List Int) (b f : Bool) (more : Int) : aP G FT n_law29_SizeFits [.agg (cellsW w), .data b 1 (ints l) f, .int .i64 more] = some (.bool true) := by
  have hK := known29_P G
  have hM := sMay_P G w
  have cl := cW_len w
  have cs := cW_st w
  have cv := cW_v w
  have ci : AV.idsL (cellsW w) = [] := by simp [cellsW, AV.idsL, AV.ids]
  have ct : List.take 18 (cellsW w) = cellsW w := rfl
  have hln := ints_len l
  unfold aP
  rw [run_law29_SizeFits]
  by_cases hm : mayW w = false
  · have hm' := hm
    (sym => simp [Qa,Qb,Qc,Qd,Qe,Qf,Qg,Qh,Qi,Qj,Qk,Ql,Qm,Qn,Qo,Qp,Qq,Qr,Qs,Qt,Qu,Qv,Qw,Qx,Qy,Qz,Q0,Q1,Q2,Q3,Q4,Q5,Q6,Q7,Q8,Q9,Xa,Xb,Xc,Xd,Xe,Xf,Xg,Xh,Xi,Xj,Xk,Xl,Xm,Xn,Xo,Xp,Xq,Xr,Xs,Xt,Xu,Xv,Xw,Xx,Xy,Xz,X0,X1,X2,X3,X4,X5,X6,X7,X8,X9,Ya,Yb,Yc,Yd,Ye,Yf,Yg,Yh,Yi,Yj,Yk,Yl,Ym,Yn,Yo,Yp,Yq,Yr,Ys,Yt,Yu,Yv,Yw,Yx,Yy,Yz,Y0,Y1,Y2,Y3,Y4,Y5,Y6,Y7,Y8,Y9,Za,Zb,Zc,Zd,Ze,Zf,Zg,Zh,Zi,Zj,Zk,Zl,Zm,Zn,Zo,Zp,Zq,Zr,Zs,Zt,Zu,Zv,Zw,Zx,Zy,Zz,Z0,Z1,Z2,Z3,Z4,Z5,Z6,Z7,Z8,Z9,Ja,Jb,Jc,Jd,Je,Jf,Jg,Jh,Ji,Jj,Jk,Jl,Jm,Jn,Jo,Jp,Jq,Jr,Js,Jt,Ju,Jv,Jw,Jx,Jy,Jz,J0,J1,J2,J3,J4,J5,J6,J7,J8,J9,Ka,Kb,Kc,Kd,Ke,Kf,Kg,Kh,Ki,Kj,Kk,Kl,Km,Kn,Ko,Kp,Kq,Kr,Ks,Kt,Ku,Kv,Kw,Kx,Ky,Kz,K0,K1,K2,K3,K4,K5,K6,K7,K8,K9,Ua,Ub,Uc,Ud,Ue,Uf,Ug,Uh,Ui,Uj,Uk,Ul,Um,Un,Uo,Up,Uq,Ur,Us,Ut,Uu,Uv,Uw,Ux,Uy,Uz,U0,U1,U2,U3,U4,U5,U6,U7,U8,U9,Va,Vb,Vc,Vd,Ve,Vf,Vg,Vh,Vi,Vj,Vk,Vl,Vm,Vn,Vo,Vp,Vq,Vr,Vs,Vt,Vu,Vv,Vw,Vx,Vy,Vz,V0,V1,V2,V3,V4,V5,V6,V7,V8,V9,Wa,Wb,Wc,Wd,We,Wf,Wg,Wh,Wi,Wj,Wk,Wl,Wm,Wn,Wo,Wp,Wq,Wr,Ws,Wt,Wu,Wv,Ww,Wx,Wy,Wz,W0,W1,W2,W3,W4,W5,W6,W7,W8,W9,Ha,Hb,Hc,Hd,He,Hf,Hg,Hh,Hi,Hj,Hk,Hl,Hm,Hn,Ho,Hp,Hq,Hr,Hs,Ht,Hu,Hv,Hw,Hx,Hy,Hz,H0,H1,H2,H3,H4,H5,H6,H7,H8,H9,Na,Nb,Nc,Nd,Ne,Nf,Ng,Nh,Ni,Nj,Nk,Nl,Nm,Nn,No,Np,Nq,Nr,Ns,Nt,Nu,Nv,Nw,Nx,Ny,Nz,N0,N1,N2,N3,N4,N5,N6,N7,N8,N9,Ba,Bb,Bc,Bd,Be,Bf,Bg,Bh,Bi,Bj,Bk,Bl,Bm,Bn,Bo,Bp,Bq,Br,Bs,Bt,Bu,Bv,Bw,Bx,By,Bz,BA,BB,BC,BD,BE,BF,BG,BH,BI,BJ,BK,BL,BM,BN,BO,BP,BQ,BR,BS,BT,BU,BV,BW,BX,BY,BZ,Ca,Cb,q0R0.eq_1,q0R1.eq_1,q0R2.eq_1,q0R3.eq_1,q0R4.eq_1,q0R5.eq_1,q0R6.eq_1,q0R7.eq_1,q0R8.eq_1,q0R9.eq_1,q0R10.eq_1,q0R12.eq_1,q0R13.eq_1,q0R11.eq_1,q0R14.eq_1,q0R15.eq_1,q0R16.eq_1,q0R17.eq_1,q0R18.eq_1,q0R19.eq_1,q0R20.eq_1,q0R21.eq_1,q0R23.eq_1,q0R24.eq_1,q0R25.eq_1,q0R27.eq_1,q0R28.eq_1,q0R29.eq_1,q0R30.eq_1,q0R26.eq_1,q0R31.eq_1,q0R32.eq_1,q0R22.eq_1,q0R33.eq_1,c_law29_SizeFits.eq_1,hK,hM,cl,cs,cv,ct,hm'])
  have hm : mayW w = true := by simpa using hm
  by_cases hl : 50 < l.length
  · have hl' : (50 : Int) < l.length := by omega
    (sym => simp [Qa,Qb,Qc,Qd,Qe,Qf,Qg,Qh,Qi,Qj,Qk,Ql,Qm,Qn,Qo,Qp,Qq,Qr,Qs,Qt,Qu,Qv,Qw,Qx,Qy,Qz,Q0,Q1,Q2,Q3,Q4,Q5,Q6,Q7,Q8,Q9,Xa,Xb,Xc,Xd,Xe,Xf,Xg,Xh,Xi,Xj,Xk,Xl,Xm,Xn,Xo,Xp,Xq,Xr,Xs,Xt,Xu,Xv,Xw,Xx,Xy,Xz,X0,X1,X2,X3,X4,X5,X6,X7,X8,X9,Ya,Yb,Yc,Yd,Ye,Yf,Yg,Yh,Yi,Yj,Yk,Yl,Ym,Yn,Yo,Yp,Yq,Yr,Ys,Yt,Yu,Yv,Yw,Yx,Yy,Yz,Y0,Y1,Y2,Y3,Y4,Y5,Y6,Y7,Y8,Y9,Za,Zb,Zc,Zd,Ze,Zf,Zg,Zh,Zi,Zj,Zk,Zl,Zm,Zn,Zo,Zp,Zq,Zr,Zs,Zt,Zu,Zv,Zw,Zx,Zy,Zz,Z0,Z1,Z2,Z3,Z4,Z5,Z6,Z7,Z8,Z9,Ja,Jb,Jc,Jd,Je,Jf,Jg,Jh,Ji,Jj,Jk,Jl,Jm,Jn,Jo,Jp,Jq,Jr,Js,Jt,Ju,Jv,Jw,Jx,Jy,Jz,J0,J1,J2,J3,J4,J5,J6,J7,J8,J9,Ka,Kb,Kc,Kd,Ke,Kf,Kg,Kh,Ki,Kj,Kk,Kl,Km,Kn,Ko,Kp,Kq,Kr,Ks,Kt,Ku,Kv,Kw,Kx,Ky,Kz,K0,K1,K2,K3,K4,K5,K6,K7,K8,K9,Ua,Ub,Uc,Ud,Ue,Uf,Ug,Uh,Ui,Uj,Uk,Ul,Um,Un,Uo,Up,Uq,Ur,Us,Ut,Uu,Uv,Uw,Ux,Uy,Uz,U0,U1,U2,U3,U4,U5,U6,U7,U8,U9,Va,Vb,Vc,Vd,Ve,Vf,Vg,Vh,Vi,Vj,Vk,Vl,Vm,Vn,Vo,Vp,Vq,Vr,Vs,Vt,Vu,Vv,Vw,Vx,Vy,Vz,V0,V1,V2,V3,V4,V5,V6,V7,V8,V9,Wa,Wb,Wc,Wd,We,Wf,Wg,Wh,Wi,Wj,Wk,Wl,Wm,Wn,Wo,Wp,Wq,Wr,Ws,Wt,Wu,Wv,Ww,Wx,Wy,Wz,W0,W1,W2,W3,W4,W5,W6,W7,W8,W9,Ha,Hb,Hc,Hd,He,Hf,Hg,Hh,Hi,Hj,Hk,Hl,Hm,Hn,Ho,Hp,Hq,Hr,Hs,Ht,Hu,Hv,Hw,Hx,Hy,Hz,H0,H1,H2,H3,H4,H5,H6,H7,H8,H9,Na,Nb,Nc,Nd,Ne,Nf,Ng,Nh,Ni,Nj,Nk,Nl,Nm,Nn,No,Np,Nq,Nr,Ns,Nt,Nu,Nv,Nw,Nx,Ny,Nz,N0,N1,N2,N3,N4,N5,N6,N7,N8,N9,Ba,Bb,Bc,Bd,Be,Bf,Bg,Bh,Bi,Bj,Bk,Bl,Bm,Bn,Bo,Bp,Bq,Br,Bs,Bt,Bu,Bv,Bw,Bx,By,Bz,BA,BB,BC,BD,BE,BF,BG,BH,BI,BJ,BK,BL,BM,BN,BO,BP,BQ,BR,BS,BT,BU,BV,BW,BX,BY,BZ,Ca,Cb,q0R0.eq_1,q0R1.eq_1,q0R2.eq_1,q0R3.eq_1,q0R4.eq_1,q0R5.eq_1,q0R6.eq_1,q0R7.eq_1,q0R8.eq_1,q0R9.eq_1,q0R10.eq_1,q0R12.eq_1,q0R13.eq_1,q0R11.eq_1,q0R14.eq_1,q0R15.eq_1,q0R16.eq_1,q0R17.eq_1,q0R18.eq_1,q0R19.eq_1,q0R20.eq_1,q0R21.eq_1,q0R23.eq_1,q0R24.eq_1,q0R25.eq_1,q0R27.eq_1,q0R28.eq_1,q0R29.eq_1,q0R30.eq_1,q0R26.eq_1,q0R31.eq_1,q0R32.eq_1,q0R22.eq_1,q0R33.eq_1,c_law29_SizeFits.eq_1,hK,hM,cl,cs,cv,ct,hm,hln,hl'])
  have hl : l.length ≤ 50 := by omega
  have hl' : ¬ (50 : Int) < l.length := by omega
  have hLx := fun b f => least_P G w l b f (-1) (-1) (by omega)
  have hbl : (backL l l.length).length = 2 * l.length := backL_len l l.length
  have hLb := fun b f => least_P G w (backL l l.length) b f (-1) (-1) (by omega)
  have hLy := fun b f => least_P G w (l ++ [more]) b f (-1) (-1) (by simp; omega)
  have hsame : lstW w (backL l l.length) = lstW w l := lst_same w fun x => (backL_all l x).symm
  have hxb : leastW w (backL l l.length) (-1) (-1) = leastW w l (-1) (-1) := by unfold leastW; rw [hsame]
  rw [hxb] at hLb
  rw [ints_append, ints_cons, ints_nil] at hLy
  have b1 : l.length * 8 ≤ 140737488355328 := by omega
  have b2 : (l.length + 1) * 8 ≤ 140737488355328 := by omega
  have n1 : l.length ≤ 0 ↔ l.length = 0 := by omega
  have n2 : l.length + 1 ≤ l.length ↔ False := by simp
  have tk : List.take l.length (ints l) = ints l := List.take_of_length_le (by rw [hln]; exact Nat.le_refl _)
  have tk1 : List.take (l.length + 1) (ints l ++ [[AV.int .i64 more]]) = ints l ++ [[AV.int .i64 more]] := List.take_of_length_le (by simp [hln])
  have hil := ints_len (backL l l.length)
  have tk2 : List.take (2 * l.length) (ints (backL l l.length)) = ints (backL l l.length) := List.take_of_length_le (by rw [hil, hbl]; exact Nat.le_refl _)
  have loop0 := fits_loop0 G w (leastW w l (-1) (-1)).1 (leastW w l (-1) (-1)).2 more b f l hl l.length 0 (by omega)
  rw [lp_law29_SizeFits_0] at loop0
  unfold rowsA at loop0
  simp only [backL, ints_nil, List.take_zero, List.any_nil, Nat.mul_zero, Int.natCast_zero] at loop0
  have htold := lst_told w l
  cases ht : l.any (valW w) with
  | false =>
    have hx : leastW w l (-1) (-1) = (-1, -1) := by
      unfold leastW
      rw [if_neg (by rw [htold, ht]; simp)]
    rw [ht] at loop0
    rw [hx] at hLx hLb loop0
    simp only at hLx hLb loop0
    (sym => simp [Qa,Qb,Qc,Qd,Qe,Qf,Qg,Qh,Qi,Qj,Qk,Ql,Qm,Qn,Qo,Qp,Qq,Qr,Qs,Qt,Qu,Qv,Qw,Qx,Qy,Qz,Q0,Q1,Q2,Q3,Q4,Q5,Q6,Q7,Q8,Q9,Xa,Xb,Xc,Xd,Xe,Xf,Xg,Xh,Xi,Xj,Xk,Xl,Xm,Xn,Xo,Xp,Xq,Xr,Xs,Xt,Xu,Xv,Xw,Xx,Xy,Xz,X0,X1,X2,X3,X4,X5,X6,X7,X8,X9,Ya,Yb,Yc,Yd,Ye,Yf,Yg,Yh,Yi,Yj,Yk,Yl,Ym,Yn,Yo,Yp,Yq,Yr,Ys,Yt,Yu,Yv,Yw,Yx,Yy,Yz,Y0,Y1,Y2,Y3,Y4,Y5,Y6,Y7,Y8,Y9,Za,Zb,Zc,Zd,Ze,Zf,Zg,Zh,Zi,Zj,Zk,Zl,Zm,Zn,Zo,Zp,Zq,Zr,Zs,Zt,Zu,Zv,Zw,Zx,Zy,Zz,Z0,Z1,Z2,Z3,Z4,Z5,Z6,Z7,Z8,Z9,Ja,Jb,Jc,Jd,Je,Jf,Jg,Jh,Ji,Jj,Jk,Jl,Jm,Jn,Jo,Jp,Jq,Jr,Js,Jt,Ju,Jv,Jw,Jx,Jy,Jz,J0,J1,J2,J3,J4,J5,J6,J7,J8,J9,Ka,Kb,Kc,Kd,Ke,Kf,Kg,Kh,Ki,Kj,Kk,Kl,Km,Kn,Ko,Kp,Kq,Kr,Ks,Kt,Ku,Kv,Kw,Kx,Ky,Kz,K0,K1,K2,K3,K4,K5,K6,K7,K8,K9,Ua,Ub,Uc,Ud,Ue,Uf,Ug,Uh,Ui,Uj,Uk,Ul,Um,Un,Uo,Up,Uq,Ur,Us,Ut,Uu,Uv,Uw,Ux,Uy,Uz,U0,U1,U2,U3,U4,U5,U6,U7,U8,U9,Va,Vb,Vc,Vd,Ve,Vf,Vg,Vh,Vi,Vj,Vk,Vl,Vm,Vn,Vo,Vp,Vq,Vr,Vs,Vt,Vu,Vv,Vw,Vx,Vy,Vz,V0,V1,V2,V3,V4,V5,V6,V7,V8,V9,Wa,Wb,Wc,Wd,We,Wf,Wg,Wh,Wi,Wj,Wk,Wl,Wm,Wn,Wo,Wp,Wq,Wr,Ws,Wt,Wu,Wv,Ww,Wx,Wy,Wz,W0,W1,W2,W3,W4,W5,W6,W7,W8,W9,Ha,Hb,Hc,Hd,He,Hf,Hg,Hh,Hi,Hj,Hk,Hl,Hm,Hn,Ho,Hp,Hq,Hr,Hs,Ht,Hu,Hv,Hw,Hx,Hy,Hz,H0,H1,H2,H3,H4,H5,H6,H7,H8,H9,Na,Nb,Nc,Nd,Ne,Nf,Ng,Nh,Ni,Nj,Nk,Nl,Nm,Nn,No,Np,Nq,Nr,Ns,Nt,Nu,Nv,Nw,Nx,Ny,Nz,N0,N1,N2,N3,N4,N5,N6,N7,N8,N9,Ba,Bb,Bc,Bd,Be,Bf,Bg,Bh,Bi,Bj,Bk,Bl,Bm,Bn,Bo,Bp,Bq,Br,Bs,Bt,Bu,Bv,Bw,Bx,By,Bz,BA,BB,BC,BD,BE,BF,BG,BH,BI,BJ,BK,BL,BM,BN,BO,BP,BQ,BR,BS,BT,BU,BV,BW,BX,BY,BZ,Ca,Cb,q0R0.eq_1,q0R1.eq_1,q0R2.eq_1,q0R3.eq_1,q0R4.eq_1,q0R5.eq_1,q0R6.eq_1,q0R7.eq_1,q0R8.eq_1,q0R9.eq_1,q0R10.eq_1,q0R12.eq_1,q0R13.eq_1,q0R11.eq_1,q0R14.eq_1,q0R15.eq_1,q0R16.eq_1,q0R17.eq_1,q0R18.eq_1,q0R19.eq_1,q0R20.eq_1,q0R21.eq_1,q0R23.eq_1,q0R24.eq_1,q0R25.eq_1,q0R27.eq_1,q0R28.eq_1,q0R29.eq_1,q0R30.eq_1,q0R26.eq_1,q0R31.eq_1,q0R32.eq_1,q0R22.eq_1,q0R33.eq_1,c_law29_SizeFits.eq_1,hK,hM,cl,cs,cv,ct,hm,hln,hl',hLx]; tactic => (
      rw [lp_law29_SizeFits_0, loop0 _ ?hst]
      case hst => (sym => simp [Qa,Qb,Qc,Qd,Qe,Qf,Qg,Qh,Qi,Qj,Qk,Ql,Qm,Qn,Qo,Qp,Qq,Qr,Qs,Qt,Qu,Qv,Qw,Qx,Qy,Qz,Q0,Q1,Q2,Q3,Q4,Q5,Q6,Q7,Q8,Q9,Xa,Xb,Xc,Xd,Xe,Xf,Xg,Xh,Xi,Xj,Xk,Xl,Xm,Xn,Xo,Xp,Xq,Xr,Xs,Xt,Xu,Xv,Xw,Xx,Xy,Xz,X0,X1,X2,X3,X4,X5,X6,X7,X8,X9,Ya,Yb,Yc,Yd,Ye,Yf,Yg,Yh,Yi,Yj,Yk,Yl,Ym,Yn,Yo,Yp,Yq,Yr,Ys,Yt,Yu,Yv,Yw,Yx,Yy,Yz,Y0,Y1,Y2,Y3,Y4,Y5,Y6,Y7,Y8,Y9,Za,Zb,Zc,Zd,Ze,Zf,Zg,Zh,Zi,Zj,Zk,Zl,Zm,Zn,Zo,Zp,Zq,Zr,Zs,Zt,Zu,Zv,Zw,Zx,Zy,Zz,Z0,Z1,Z2,Z3,Z4,Z5,Z6,Z7,Z8,Z9,Ja,Jb,Jc,Jd,Je,Jf,Jg,Jh,Ji,Jj,Jk,Jl,Jm,Jn,Jo,Jp,Jq,Jr,Js,Jt,Ju,Jv,Jw,Jx,Jy,Jz,J0,J1,J2,J3,J4,J5,J6,J7,J8,J9,Ka,Kb,Kc,Kd,Ke,Kf,Kg,Kh,Ki,Kj,Kk,Kl,Km,Kn,Ko,Kp,Kq,Kr,Ks,Kt,Ku,Kv,Kw,Kx,Ky,Kz,K0,K1,K2,K3,K4,K5,K6,K7,K8,K9,Ua,Ub,Uc,Ud,Ue,Uf,Ug,Uh,Ui,Uj,Uk,Ul,Um,Un,Uo,Up,Uq,Ur,Us,Ut,Uu,Uv,Uw,Ux,Uy,Uz,U0,U1,U2,U3,U4,U5,U6,U7,U8,U9,Va,Vb,Vc,Vd,Ve,Vf,Vg,Vh,Vi,Vj,Vk,Vl,Vm,Vn,Vo,Vp,Vq,Vr,Vs,Vt,Vu,Vv,Vw,Vx,Vy,Vz,V0,V1,V2,V3,V4,V5,V6,V7,V8,V9,Wa,Wb,Wc,Wd,We,Wf,Wg,Wh,Wi,Wj,Wk,Wl,Wm,Wn,Wo,Wp,Wq,Wr,Ws,Wt,Wu,Wv,Ww,Wx,Wy,Wz,W0,W1,W2,W3,W4,W5,W6,W7,W8,W9,Ha,Hb,Hc,Hd,He,Hf,Hg,Hh,Hi,Hj,Hk,Hl,Hm,Hn,Ho,Hp,Hq,Hr,Hs,Ht,Hu,Hv,Hw,Hx,Hy,Hz,H0,H1,H2,H3,H4,H5,H6,H7,H8,H9,Na,Nb,Nc,Nd,Ne,Nf,Ng,Nh,Ni,Nj,Nk,Nl,Nm,Nn,No,Np,Nq,Nr,Ns,Nt,Nu,Nv,Nw,Nx,Ny,Nz,N0,N1,N2,N3,N4,N5,N6,N7,N8,N9,Ba,Bb,Bc,Bd,Be,Bf,Bg,Bh,Bi,Bj,Bk,Bl,Bm,Bn,Bo,Bp,Bq,Br,Bs,Bt,Bu,Bv,Bw,Bx,By,Bz,BA,BB,BC,BD,BE,BF,BG,BH,BI,BJ,BK,BL,BM,BN,BO,BP,BQ,BR,BS,BT,BU,BV,BW,BX,BY,BZ,Ca,Cb])
      (sym => simp [Qa,Qb,Qc,Qd,Qe,Qf,Qg,Qh,Qi,Qj,Qk,Ql,Qm,Qn,Qo,Qp,Qq,Qr,Qs,Qt,Qu,Qv,Qw,Qx,Qy,Qz,Q0,Q1,Q2,Q3,Q4,Q5,Q6,Q7,Q8,Q9,Xa,Xb,Xc,Xd,Xe,Xf,Xg,Xh,Xi,Xj,Xk,Xl,Xm,Xn,Xo,Xp,Xq,Xr,Xs,Xt,Xu,Xv,Xw,Xx,Xy,Xz,X0,X1,X2,X3,X4,X5,X6,X7,X8,X9,Ya,Yb,Yc,Yd,Ye,Yf,Yg,Yh,Yi,Yj,Yk,Yl,Ym,Yn,Yo,Yp,Yq,Yr,Ys,Yt,Yu,Yv,Yw,Yx,Yy,Yz,Y0,Y1,Y2,Y3,Y4,Y5,Y6,Y7,Y8,Y9,Za,Zb,Zc,Zd,Ze,Zf,Zg,Zh,Zi,Zj,Zk,Zl,Zm,Zn,Zo,Zp,Zq,Zr,Zs,Zt,Zu,Zv,Zw,Zx,Zy,Zz,Z0,Z1,Z2,Z3,Z4,Z5,Z6,Z7,Z8,Z9,Ja,Jb,Jc,Jd,Je,Jf,Jg,Jh,Ji,Jj,Jk,Jl,Jm,Jn,Jo,Jp,Jq,Jr,Js,Jt,Ju,Jv,Jw,Jx,Jy,Jz,J0,J1,J2,J3,J4,J5,J6,J7,J8,J9,Ka,Kb,Kc,Kd,Ke,Kf,Kg,Kh,Ki,Kj,Kk,Kl,Km,Kn,Ko,Kp,Kq,Kr,Ks,Kt,Ku,Kv,Kw,Kx,Ky,Kz,K0,K1,K2,K3,K4,K5,K6,K7,K8,K9,Ua,Ub,Uc,Ud,Ue,Uf,Ug,Uh,Ui,Uj,Uk,Ul,Um,Un,Uo,Up,Uq,Ur,Us,Ut,Uu,Uv,Uw,Ux,Uy,Uz,U0,U1,U2,U3,U4,U5,U6,U7,U8,U9,Va,Vb,Vc,Vd,Ve,Vf,Vg,Vh,Vi,Vj,Vk,Vl,Vm,Vn,Vo,Vp,Vq,Vr,Vs,Vt,Vu,Vv,Vw,Vx,Vy,Vz,V0,V1,V2,V3,V4,V5,V6,V7,V8,V9,Wa,Wb,Wc,Wd,We,Wf,Wg,Wh,Wi,Wj,Wk,Wl,Wm,Wn,Wo,Wp,Wq,Wr,Ws,Wt,Wu,Wv,Ww,Wx,Wy,Wz,W0,W1,W2,W3,W4,W5,W6,W7,W8,W9,Ha,Hb,Hc,Hd,He,Hf,Hg,Hh,Hi,Hj,Hk,Hl,Hm,Hn,Ho,Hp,Hq,Hr,Hs,Ht,Hu,Hv,Hw,Hx,Hy,Hz,H0,H1,H2,H3,H4,H5,H6,H7,H8,H9,Na,Nb,Nc,Nd,Ne,Nf,Ng,Nh,Ni,Nj,Nk,Nl,Nm,Nn,No,Np,Nq,Nr,Ns,Nt,Nu,Nv,Nw,Nx,Ny,Nz,N0,N1,N2,N3,N4,N5,N6,N7,N8,N9,Ba,Bb,Bc,Bd,Be,Bf,Bg,Bh,Bi,Bj,Bk,Bl,Bm,Bn,Bo,Bp,Bq,Br,Bs,Bt,Bu,Bv,Bw,Bx,By,Bz,BA,BB,BC,BD,BE,BF,BG,BH,BI,BJ,BK,BL,BM,BN,BO,BP,BQ,BR,BS,BT,BU,BV,BW,BX,BY,BZ,Ca,Cb,q0R0.eq_1,q0R1.eq_1,q0R2.eq_1,q0R3.eq_1,q0R4.eq_1,q0R5.eq_1,q0R6.eq_1,q0R7.eq_1,q0R8.eq_1,q0R9.eq_1,q0R10.eq_1,q0R12.eq_1,q0R13.eq_1,q0R11.eq_1,q0R14.eq_1,q0R15.eq_1,q0R16.eq_1,q0R17.eq_1,q0R18.eq_1,q0R19.eq_1,q0R20.eq_1,q0R21.eq_1,q0R23.eq_1,q0R24.eq_1,q0R25.eq_1,q0R27.eq_1,q0R28.eq_1,q0R29.eq_1,q0R30.eq_1,q0R26.eq_1,q0R31.eq_1,q0R32.eq_1,q0R22.eq_1,q0R33.eq_1,c_law29_SizeFits.eq_1,cl,cs,ci,cv,ct,hLb,hLy,hln,hil,hbl,b1,b2,n1,n2,tk,tk1,tk2])))
  | true =>
    have hx : leastW w l (-1) (-1) = (lstW w l).2 := by
      unfold leastW
      rw [if_pos ⟨hm, by rw [htold, ht]⟩]
    have hty : (lstW w (l ++ [more])).1 = true := by rw [lst_told, List.any_append, ht]; rfl
    have hy : leastW w (l ++ [more]) (-1) (-1) = (lstW w (l ++ [more])).2 := by
      unfold leastW
      rw [if_pos ⟨hm, hty⟩]
    rw [ht] at loop0
    rw [hx] at hLx hLb loop0
    rw [hy] at hLy
    -- what the law asks
    obtain ⟨p1, p2⟩ := lst_pos hm l
    obtain ⟨m1, m2⟩ := (lst_le1 w l _).1 (Int.le_refl _)
    obtain ⟨m3, m4⟩ := (lst_le2 w l _).1 (Int.le_refl _)
    have my1 : (lstW w (l ++ [more])).2.1 ≤ (lstW w l).2.1 := by
      obtain ⟨u1, u2⟩ := (lst_le1 w (l ++ [more]) _).1 (Int.le_refl _)
      exact (lst_le1 w l _).2 ⟨u1, fun x hx hv => u2 x (by simp [hx]) hv⟩
    have my2 : (lstW w (l ++ [more])).2.2 ≤ (lstW w l).2.2 := by
      obtain ⟨u1, u2⟩ := (lst_le2 w (l ++ [more]) _).1 (Int.le_refl _)
      exact (lst_le2 w l _).2 ⟨u1, fun x hx hv => u2 x (by simp [hx]) hv⟩
    have one0 : oneRun0 w (lstW w l).2.1 (decide ((lstW w l).2.1 = 24)) l = true := by
      rw [oneRun0_iff, Bool.or_eq_true, List.any_eq_true]
      rcases fold_mem1 w l (false, 24, 40) with h | ⟨x, h1, h2, h3⟩
      · left; rw [decide_eq_true_eq]; exact h
      · exact .inr ⟨x, h1, by simp only [h2, Bool.true_and, decide_eq_true_eq]; exact h3⟩
    have one1 : oneRun1 w (lstW w l).2.2 (decide ((lstW w l).2.2 = 40)) l = true := by
      rw [oneRun1_iff, Bool.or_eq_true, List.any_eq_true]
      rcases fold_mem2 w l (false, 24, 40) with h | ⟨x, h1, h2, h3⟩
      · left; rw [decide_eq_true_eq]; exact h
      · exact .inr ⟨x, h1, by simp only [h2, Bool.true_and, decide_eq_true_eq]; exact h3⟩
    have k0 := fun o => fits_loop2_0 G w (lstW w l).2.1 (lstW w l).2.2 (lstW w (l ++ [more])).2.1 (lstW w (l ++ [more])).2.2 b f l hl m2 l.length 0 o (by omega)
    have k1 := fun o => fits_loop2_1 G w (lstW w l).2.1 (lstW w l).2.2 (lstW w (l ++ [more])).2.1 (lstW w (l ++ [more])).2.2 b f l hl m4 l.length 0 o (by omega)
    simp only [List.drop_zero, Int.natCast_zero] at k0 k1
    unfold rowsB at k0 k1
    generalize (lstW w l).2.1 = x1 at *
    generalize (lstW w l).2.2 = x2 at *
    generalize (lstW w (l ++ [more])).2.1 = y1 at *
    generalize (lstW w (l ++ [more])).2.2 = y2 at *
    have nx : ¬ x1 = -1 := by omega
    have g1 : ¬ 24 < x1 := by omega
    have g2 : ¬ 40 < x2 := by omega
    have g3 : ¬ x1 < 1 := by omega
    have g4 : ¬ x2 < 1 := by omega
    have g5 : ¬ x1 < y1 := by omega
    have g6 : ¬ x2 < y2 := by omega
    have hw1 : IntKind.i64.wrap 1 = 1 := by decide
    have hw2 : IntKind.i64.wrap 2 = 2 := by decide
    (sym => simp [Qa,Qb,Qc,Qd,Qe,Qf,Qg,Qh,Qi,Qj,Qk,Ql,Qm,Qn,Qo,Qp,Qq,Qr,Qs,Qt,Qu,Qv,Qw,Qx,Qy,Qz,Q0,Q1,Q2,Q3,Q4,Q5,Q6,Q7,Q8,Q9,Xa,Xb,Xc,Xd,Xe,Xf,Xg,Xh,Xi,Xj,Xk,Xl,Xm,Xn,Xo,Xp,Xq,Xr,Xs,Xt,Xu,Xv,Xw,Xx,Xy,Xz,X0,X1,X2,X3,X4,X5,X6,X7,X8,X9,Ya,Yb,Yc,Yd,Ye,Yf,Yg,Yh,Yi,Yj,Yk,Yl,Ym,Yn,Yo,Yp,Yq,Yr,Ys,Yt,Yu,Yv,Yw,Yx,Yy,Yz,Y0,Y1,Y2,Y3,Y4,Y5,Y6,Y7,Y8,Y9,Za,Zb,Zc,Zd,Ze,Zf,Zg,Zh,Zi,Zj,Zk,Zl,Zm,Zn,Zo,Zp,Zq,Zr,Zs,Zt,Zu,Zv,Zw,Zx,Zy,Zz,Z0,Z1,Z2,Z3,Z4,Z5,Z6,Z7,Z8,Z9,Ja,Jb,Jc,Jd,Je,Jf,Jg,Jh,Ji,Jj,Jk,Jl,Jm,Jn,Jo,Jp,Jq,Jr,Js,Jt,Ju,Jv,Jw,Jx,Jy,Jz,J0,J1,J2,J3,J4,J5,J6,J7,J8,J9,Ka,Kb,Kc,Kd,Ke,Kf,Kg,Kh,Ki,Kj,Kk,Kl,Km,Kn,Ko,Kp,Kq,Kr,Ks,Kt,Ku,Kv,Kw,Kx,Ky,Kz,K0,K1,K2,K3,K4,K5,K6,K7,K8,K9,Ua,Ub,Uc,Ud,Ue,Uf,Ug,Uh,Ui,Uj,Uk,Ul,Um,Un,Uo,Up,Uq,Ur,Us,Ut,Uu,Uv,Uw,Ux,Uy,Uz,U0,U1,U2,U3,U4,U5,U6,U7,U8,U9,Va,Vb,Vc,Vd,Ve,Vf,Vg,Vh,Vi,Vj,Vk,Vl,Vm,Vn,Vo,Vp,Vq,Vr,Vs,Vt,Vu,Vv,Vw,Vx,Vy,Vz,V0,V1,V2,V3,V4,V5,V6,V7,V8,V9,Wa,Wb,Wc,Wd,We,Wf,Wg,Wh,Wi,Wj,Wk,Wl,Wm,Wn,Wo,Wp,Wq,Wr,Ws,Wt,Wu,Wv,Ww,Wx,Wy,Wz,W0,W1,W2,W3,W4,W5,W6,W7,W8,W9,Ha,Hb,Hc,Hd,He,Hf,Hg,Hh,Hi,Hj,Hk,Hl,Hm,Hn,Ho,Hp,Hq,Hr,Hs,Ht,Hu,Hv,Hw,Hx,Hy,Hz,H0,H1,H2,H3,H4,H5,H6,H7,H8,H9,Na,Nb,Nc,Nd,Ne,Nf,Ng,Nh,Ni,Nj,Nk,Nl,Nm,Nn,No,Np,Nq,Nr,Ns,Nt,Nu,Nv,Nw,Nx,Ny,Nz,N0,N1,N2,N3,N4,N5,N6,N7,N8,N9,Ba,Bb,Bc,Bd,Be,Bf,Bg,Bh,Bi,Bj,Bk,Bl,Bm,Bn,Bo,Bp,Bq,Br,Bs,Bt,Bu,Bv,Bw,Bx,By,Bz,BA,BB,BC,BD,BE,BF,BG,BH,BI,BJ,BK,BL,BM,BN,BO,BP,BQ,BR,BS,BT,BU,BV,BW,BX,BY,BZ,Ca,Cb,q0R0.eq_1,q0R1.eq_1,q0R2.eq_1,q0R3.eq_1,q0R4.eq_1,q0R5.eq_1,q0R6.eq_1,q0R7.eq_1,q0R8.eq_1,q0R9.eq_1,q0R10.eq_1,q0R12.eq_1,q0R13.eq_1,q0R11.eq_1,q0R14.eq_1,q0R15.eq_1,q0R16.eq_1,q0R17.eq_1,q0R18.eq_1,q0R19.eq_1,q0R20.eq_1,q0R21.eq_1,q0R23.eq_1,q0R24.eq_1,q0R25.eq_1,q0R27.eq_1,q0R28.eq_1,q0R29.eq_1,q0R30.eq_1,q0R26.eq_1,q0R31.eq_1,q0R32.eq_1,q0R22.eq_1,q0R33.eq_1,c_law29_SizeFits.eq_1,hK,hM,cl,cs,cv,ct,hm,hln,hl',hLx]; tactic => (
      rw [lp_law29_SizeFits_0, loop0 _ ?hst]
      case hst => (sym => simp [Qa,Qb,Qc,Qd,Qe,Qf,Qg,Qh,Qi,Qj,Qk,Ql,Qm,Qn,Qo,Qp,Qq,Qr,Qs,Qt,Qu,Qv,Qw,Qx,Qy,Qz,Q0,Q1,Q2,Q3,Q4,Q5,Q6,Q7,Q8,Q9,Xa,Xb,Xc,Xd,Xe,Xf,Xg,Xh,Xi,Xj,Xk,Xl,Xm,Xn,Xo,Xp,Xq,Xr,Xs,Xt,Xu,Xv,Xw,Xx,Xy,Xz,X0,X1,X2,X3,X4,X5,X6,X7,X8,X9,Ya,Yb,Yc,Yd,Ye,Yf,Yg,Yh,Yi,Yj,Yk,Yl,Ym,Yn,Yo,Yp,Yq,Yr,Ys,Yt,Yu,Yv,Yw,Yx,Yy,Yz,Y0,Y1,Y2,Y3,Y4,Y5,Y6,Y7,Y8,Y9,Za,Zb,Zc,Zd,Ze,Zf,Zg,Zh,Zi,Zj,Zk,Zl,Zm,Zn,Zo,Zp,Zq,Zr,Zs,Zt,Zu,Zv,Zw,Zx,Zy,Zz,Z0,Z1,Z2,Z3,Z4,Z5,Z6,Z7,Z8,Z9,Ja,Jb,Jc,Jd,Je,Jf,Jg,Jh,Ji,Jj,Jk,Jl,Jm,Jn,Jo,Jp,Jq,Jr,Js,Jt,Ju,Jv,Jw,Jx,Jy,Jz,J0,J1,J2,J3,J4,J5,J6,J7,J8,J9,Ka,Kb,Kc,Kd,Ke,Kf,Kg,Kh,Ki,Kj,Kk,Kl,Km,Kn,Ko,Kp,Kq,Kr,Ks,Kt,Ku,Kv,Kw,Kx,Ky,Kz,K0,K1,K2,K3,K4,K5,K6,K7,K8,K9,Ua,Ub,Uc,Ud,Ue,Uf,Ug,Uh,Ui,Uj,Uk,Ul,Um,Un,Uo,Up,Uq,Ur,Us,Ut,Uu,Uv,Uw,Ux,Uy,Uz,U0,U1,U2,U3,U4,U5,U6,U7,U8,U9,Va,Vb,Vc,Vd,Ve,Vf,Vg,Vh,Vi,Vj,Vk,Vl,Vm,Vn,Vo,Vp,Vq,Vr,Vs,Vt,Vu,Vv,Vw,Vx,Vy,Vz,V0,V1,V2,V3,V4,V5,V6,V7,V8,V9,Wa,Wb,Wc,Wd,We,Wf,Wg,Wh,Wi,Wj,Wk,Wl,Wm,Wn,Wo,Wp,Wq,Wr,Ws,Wt,Wu,Wv,Ww,Wx,Wy,Wz,W0,W1,W2,W3,W4,W5,W6,W7,W8,W9,Ha,Hb,Hc,Hd,He,Hf,Hg,Hh,Hi,Hj,Hk,Hl,Hm,Hn,Ho,Hp,Hq,Hr,Hs,Ht,Hu,Hv,Hw,Hx,Hy,Hz,H0,H1,H2,H3,H4,H5,H6,H7,H8,H9,Na,Nb,Nc,Nd,Ne,Nf,Ng,Nh,Ni,Nj,Nk,Nl,Nm,Nn,No,Np,Nq,Nr,Ns,Nt,Nu,Nv,Nw,Nx,Ny,Nz,N0,N1,N2,N3,N4,N5,N6,N7,N8,N9,Ba,Bb,Bc,Bd,Be,Bf,Bg,Bh,Bi,Bj,Bk,Bl,Bm,Bn,Bo,Bp,Bq,Br,Bs,Bt,Bu,Bv,Bw,Bx,By,Bz,BA,BB,BC,BD,BE,BF,BG,BH,BI,BJ,BK,BL,BM,BN,BO,BP,BQ,BR,BS,BT,BU,BV,BW,BX,BY,BZ,Ca,Cb])
      (sym => simp [Qa,Qb,Qc,Qd,Qe,Qf,Qg,Qh,Qi,Qj,Qk,Ql,Qm,Qn,Qo,Qp,Qq,Qr,Qs,Qt,Qu,Qv,Qw,Qx,Qy,Qz,Q0,Q1,Q2,Q3,Q4,Q5,Q6,Q7,Q8,Q9,Xa,Xb,Xc,Xd,Xe,Xf,Xg,Xh,Xi,Xj,Xk,Xl,Xm,Xn,Xo,Xp,Xq,Xr,Xs,Xt,Xu,Xv,Xw,Xx,Xy,Xz,X0,X1,X2,X3,X4,X5,X6,X7,X8,X9,Ya,Yb,Yc,Yd,Ye,Yf,Yg,Yh,Yi,Yj,Yk,Yl,Ym,Yn,Yo,Yp,Yq,Yr,Ys,Yt,Yu,Yv,Yw,Yx,Yy,Yz,Y0,Y1,Y2,Y3,Y4,Y5,Y6,Y7,Y8,Y9,Za,Zb,Zc,Zd,Ze,Zf,Zg,Zh,Zi,Zj,Zk,Zl,Zm,Zn,Zo,Zp,Zq,Zr,Zs,Zt,Zu,Zv,Zw,Zx,Zy,Zz,Z0,Z1,Z2,Z3,Z4,Z5,Z6,Z7,Z8,Z9,Ja,Jb,Jc,Jd,Je,Jf,Jg,Jh,Ji,Jj,Jk,Jl,Jm,Jn,Jo,Jp,Jq,Jr,Js,Jt,Ju,Jv,Jw,Jx,Jy,Jz,J0,J1,J2,J3,J4,J5,J6,J7,J8,J9,Ka,Kb,Kc,Kd,Ke,Kf,Kg,Kh,Ki,Kj,Kk,Kl,Km,Kn,Ko,Kp,Kq,Kr,Ks,Kt,Ku,Kv,Kw,Kx,Ky,Kz,K0,K1,K2,K3,K4,K5,K6,K7,K8,K9,Ua,Ub,Uc,Ud,Ue,Uf,Ug,Uh,Ui,Uj,Uk,Ul,Um,Un,Uo,Up,Uq,Ur,Us,Ut,Uu,Uv,Uw,Ux,Uy,Uz,U0,U1,U2,U3,U4,U5,U6,U7,U8,U9,Va,Vb,Vc,Vd,Ve,Vf,Vg,Vh,Vi,Vj,Vk,Vl,Vm,Vn,Vo,Vp,Vq,Vr,Vs,Vt,Vu,Vv,Vw,Vx,Vy,Vz,V0,V1,V2,V3,V4,V5,V6,V7,V8,V9,Wa,Wb,Wc,Wd,We,Wf,Wg,Wh,Wi,Wj,Wk,Wl,Wm,Wn,Wo,Wp,Wq,Wr,Ws,Wt,Wu,Wv,Ww,Wx,Wy,Wz,W0,W1,W2,W3,W4,W5,W6,W7,W8,W9,Ha,Hb,Hc,Hd,He,Hf,Hg,Hh,Hi,Hj,Hk,Hl,Hm,Hn,Ho,Hp,Hq,Hr,Hs,Ht,Hu,Hv,Hw,Hx,Hy,Hz,H0,H1,H2,H3,H4,H5,H6,H7,H8,H9,Na,Nb,Nc,Nd,Ne,Nf,Ng,Nh,Ni,Nj,Nk,Nl,Nm,Nn,No,Np,Nq,Nr,Ns,Nt,Nu,Nv,Nw,Nx,Ny,Nz,N0,N1,N2,N3,N4,N5,N6,N7,N8,N9,Ba,Bb,Bc,Bd,Be,Bf,Bg,Bh,Bi,Bj,Bk,Bl,Bm,Bn,Bo,Bp,Bq,Br,Bs,Bt,Bu,Bv,Bw,Bx,By,Bz,BA,BB,BC,BD,BE,BF,BG,BH,BI,BJ,BK,BL,BM,BN,BO,BP,BQ,BR,BS,BT,BU,BV,BW,BX,BY,BZ,Ca,Cb,q0R0.eq_1,q0R1.eq_1,q0R2.eq_1,q0R3.eq_1,q0R4.eq_1,q0R5.eq_1,q0R6.eq_1,q0R7.eq_1,q0R8.eq_1,q0R9.eq_1,q0R10.eq_1,q0R12.eq_1,q0R13.eq_1,q0R11.eq_1,q0R14.eq_1,q0R15.eq_1,q0R16.eq_1,q0R17.eq_1,q0R18.eq_1,q0R19.eq_1,q0R20.eq_1,q0R21.eq_1,q0R23.eq_1,q0R24.eq_1,q0R25.eq_1,q0R27.eq_1,q0R28.eq_1,q0R29.eq_1,q0R30.eq_1,q0R26.eq_1,q0R31.eq_1,q0R32.eq_1,q0R22.eq_1,q0R33.eq_1,c_law29_SizeFits.eq_1,c_law29_SizeFits_L1.eq_1,cl,cs,ci,cv,ct,hLb,hLy,hln,hil,hbl,b1,b2,n1,n2,tk,tk1,tk2,nx,lp_law29_SizeFits_1.eq_1,y_loop,k0,k1,one0,one1,g1,g2,g3,g4,g5,g6,hw1,hw2])))
theorem law_SizeFits (a0 : List AV) (a1 a2 : AV) (h0 : HasTys [.int .i64, .int .i64, .int .i64, .int .i64, .int .i64, .int .i64, .int .i64, .int .i64, .int .i64, .int .i64, .int .i64, .int .i64, .int .i64, .int .i64, .int .i64, .int .i64, .int .i64, .int .i64] a0) (h1 : HasTy (.sl [.int .i64]) a1) (h2 : HasTy (.int .i64) a2) : aP G FT n_law29_SizeFits [.agg a0, a1, a2] = some (.bool true) := by
  obtain ⟨l, f, rfl, _, _⟩ := ty_ints h1
  obtain ⟨more, rfl, _⟩ := ty_int h2
  obtain ⟨c0, r0, rfl, i0, j0⟩ := tys_cons h0
  obtain ⟨n0, rfl, _⟩ := ty_int i0
  obtain ⟨c1, r1, rfl, i1, j1⟩ := tys_cons j0
  obtain ⟨n1, rfl, _⟩ := ty_int i1
  obtain ⟨c2, r2, rfl, i2, j2⟩ := tys_cons j1
  obtain ⟨n2, rfl, _⟩ := ty_int i2
  obtain ⟨c3, r3, rfl, i3, j3⟩ := tys_cons j2
  obtain ⟨n3, rfl, _⟩ := ty_int i3
  obtain ⟨c4, r4, rfl, i4, j4⟩ := tys_cons j3
  obtain ⟨n4, rfl, _⟩ := ty_int i4
  obtain ⟨c5, r5, rfl, i5, j5⟩ := tys_cons j4
  obtain ⟨n5, rfl, _⟩ := ty_int i5
  obtain ⟨c6, r6, rfl, i6, j6⟩ := tys_cons j5
  obtain ⟨n6, rfl, _⟩ := ty_int i6
  obtain ⟨c7, r7, rfl, i7, j7⟩ := tys_cons j6
  obtain ⟨n7, rfl, _⟩ := ty_int i7
  obtain ⟨c8, r8, rfl, i8, j8⟩ := tys_cons j7
  obtain ⟨n8, rfl, _⟩ := ty_int i8
  obtain ⟨c9, r9, rfl, i9, j9⟩ := tys_cons j8
  obtain ⟨n9, rfl, _⟩ := ty_int i9
  obtain ⟨c10, r10, rfl, i10, j10⟩ := tys_cons j9
  obtain ⟨n10, rfl, _⟩ := ty_int i10
  obtain ⟨c11, r11, rfl, i11, j11⟩ := tys_cons j10
  obtain ⟨n11, rfl, _⟩ := ty_int i11
  obtain ⟨c12, r12, rfl, i12, j12⟩ := tys_cons j11
  obtain ⟨n12, rfl, _⟩ := ty_int i12
  obtain ⟨c13, r13, rfl, i13, j13⟩ := tys_cons j12
  obtain ⟨n13, rfl, _⟩ := ty_int i13
  obtain ⟨c14, r14, rfl, i14, j14⟩ := tys_cons j13
  obtain ⟨n14, rfl, _⟩ := ty_int i14
  obtain ⟨c15, r15, rfl, i15, j15⟩ := tys_cons j14
  obtain ⟨n15, rfl, _⟩ := ty_int i15
  obtain ⟨c16, r16, rfl, i16, j16⟩ := tys_cons j15
  obtain ⟨n16, rfl, _⟩ := ty_int i16
  obtain ⟨c17, r17, rfl, i17, j17⟩ := tys_cons j16
  obtain ⟨n17, rfl, _⟩ := ty_int i17
  have := tys_nil j17
  subst this
  exact fits_P G (fun k => match k with | 0 => (n0, n1) | 1 => (n2, n3) | 2 => (n4, n5) | 3 => (n6, n7) | 4 => (n8, n9) | 5 => (n10, n11) | 6 => (n12, n13) | 7 => (n14, n15) | _ => (n16, n17)) l false f more
end Go.Proofs.Ytcjlkggdcnochaa
