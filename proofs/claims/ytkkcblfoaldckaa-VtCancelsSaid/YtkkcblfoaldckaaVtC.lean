/- What Parse comes to. Conditions: none. -/
import Derived.Test.YtkkcblfoaldckaaVtB
set_option linter.unusedVariables false
set_option linter.unusedSimpArgs false
set_option linter.unusedSectionVars false
set_option maxRecDepth 20000
set_option maxHeartbeats 4000000
namespace Go.Proofs.Ytkkcblfoaldckaa
open Go
variable (G : Nat → Option (List AV))
theorem parse_gc (es : List (List AV)) (g n : Nat) (dl : AV) (hd : dl.ids = []) (hr : ∀ h low off o, dl.ren h low off o = dl) (a i : Int) (h : List ARow) (s : VS) (hs : St ⟨6, g, true, es⟩ h s) :
    ∃ fl, agc 0 [3, 4, 8, 9, 10] ⟨[(3, .own 0 g 0 n n), (4, .ptr 1 0 0 0), (8, dl), (9, .int .i64 a), (10, .int .i64 i)], h⟩ = some ⟨[(3, .own 0 0 0 n n), (4, .ptr 1 0 0 0), (8, dl), (9, .int .i64 a), (10, .int .i64 i)], ⟨6, 0, true, es⟩ :: canonR s fl⟩ := by
  cases s with
  | nil =>
    obtain ⟨fl, R, rfl⟩ := hs
    refine ⟨fl, ?_⟩
    have l0 : 0 < R.length + 1 + 1 := by omega
    have l1 : 1 < R.length + 1 + 1 := by omega
    unfold canonR
    cases fl <;> (sym => simp [Qa,Qb,Qc,Qd,Qe,Qf,Qg,Qh,Qi,Qj,Qk,Ql,Qm,Qn,Qo,Qp,Qq,Qr,Qs,Qt,Qu,Qv,Qw,Qx,Qy,Qz,Q0,Q1,Q2,Q3,Q4,Q5,Q6,Q7,Q8,Q9,Xa,Xb,Xc,Xd,Xe,Xf,Xg,Xh,Xi,Xj,Xk,Xl,Xm,Xn,Xo,Xp,Xq,Xr,Xs,Xt,Xu,Xv,Xw,Xx,Xy,Xz,X0,X1,X2,X3,X4,X5,X6,X7,X8,X9,Ya,Yb,Yc,Yd,Ye,Yf,Yg,Yh,Yi,Yj,Yk,Yl,Ym,Yn,Yo,Yp,Yq,Yr,Ys,Yt,Yu,Yv,Yw,Yx,Yy,Yz,Y0,Y1,Y2,Y3,Y4,Y5,Y6,Y7,Y8,Y9,Za,Zb,Zc,Zd,Ze,Zf,Zg,Zh,Zi,Zj,Zk,Zl,Zm,Zn,Zo,Zp,Zq,Zr,Zs,Zt,Zu,Zv,Zw,Zx,Zy,Zz,Z0,Z1,Z2,Z3,Z4,Z5,Z6,Z7,Z8,Z9,Ja,Jb,Jc,Jd,Je,Jf,Jg,Jh,Ji,Jj,Jk,Jl,Jm,Jn,Jo,Jp,Jq,Jr,Js,Jt,Ju,Jv,Jw,Jx,Jy,Jz,J0,J1,J2,J3,J4,J5,J6,J7,J8,J9,Ka,Kb,Kc,Kd,Ke,Kf,Kg,Kh,Ki,Kj,Kk,Kl,Km,Kn,Ko,Kp,Kq,Kr,Ks,Kt,Ku,Kv,Kw,Kx,Ky,Kz,K0,K1,K2,K3,K4,K5,K6,K7,K8,K9,Ua,Ub,Uc,Ud,Ue,Uf,Ug,Uh,Ui,Uj,Uk,Ul,Um,Un,Uo,Up,Uq,Ur,Us,Ut,Uu,Uv,Uw,Ux,Uy,Uz,U0,U1,U2,U3,U4,U5,U6,U7,U8,U9,Va,Vb,Vc,Vd,Ve,Vf,Vg,Vh,Vi,Vj,Vk,Vl,Vm,Vn,Vo,Vp,Vq,Vr,Vs,Vt,Vu,Vv,Vw,Vx,Vy,Vz,V0,V1,V2,V3,V4,V5,V6,V7,V8,V9,Wa,Wb,Wc,Wd,We,Wf,Wg,Wh,Wi,Wj,Wk,Wl,Wm,Wn,Wo,Wp,Wq,Wr,Ws,Wt,Wu,Wv,Ww,Wx,Wy,Wz,W0,W1,W2,W3,W4,W5,W6,W7,W8,W9,Ha,Hb,Hc,Hd,He,Hf,Hg,Hh,Hi,Hj,Hk,Hl,Hm,Hn,Ho,Hp,Hq,Hr,Hs,Ht,Hu,Hv,Hw,Hx,Hy,Hz,H0,H1,H2,H3,H4,H5,H6,H7,H8,H9,Na,Nb,Nc,Nd,Ne,Nf,Ng,Nh,Ni,Nj,Nk,Nl,Nm,Nn,No,Np,Nq,Nr,Ns,Nt,Nu,Nv,Nw,Nx,Ny,Nz,N0,N1,N2,N3,N4,N5,N6,N7,N8,N9,Ba,Bb,Bc,Bd,Be,Bf,Bg,Bh,Bi,Bj,Bk,Bl,Bm,Bn,Bo,Bp,Bq,Br,Bs,Bt,Bu,Bv,Bw,Bx,By,Bz,BA,BB,BC,hd,hr,l0,l1])
  | esc v s =>
    obtain ⟨fl, R, rfl⟩ := hs
    refine ⟨fl, ?_⟩
    have l0 : 0 < R.length + 1 + 1 := by omega
    have l1 : 1 < R.length + 1 + 1 := by omega
    unfold canonR
    cases fl <;> (sym => simp [Qa,Qb,Qc,Qd,Qe,Qf,Qg,Qh,Qi,Qj,Qk,Ql,Qm,Qn,Qo,Qp,Qq,Qr,Qs,Qt,Qu,Qv,Qw,Qx,Qy,Qz,Q0,Q1,Q2,Q3,Q4,Q5,Q6,Q7,Q8,Q9,Xa,Xb,Xc,Xd,Xe,Xf,Xg,Xh,Xi,Xj,Xk,Xl,Xm,Xn,Xo,Xp,Xq,Xr,Xs,Xt,Xu,Xv,Xw,Xx,Xy,Xz,X0,X1,X2,X3,X4,X5,X6,X7,X8,X9,Ya,Yb,Yc,Yd,Ye,Yf,Yg,Yh,Yi,Yj,Yk,Yl,Ym,Yn,Yo,Yp,Yq,Yr,Ys,Yt,Yu,Yv,Yw,Yx,Yy,Yz,Y0,Y1,Y2,Y3,Y4,Y5,Y6,Y7,Y8,Y9,Za,Zb,Zc,Zd,Ze,Zf,Zg,Zh,Zi,Zj,Zk,Zl,Zm,Zn,Zo,Zp,Zq,Zr,Zs,Zt,Zu,Zv,Zw,Zx,Zy,Zz,Z0,Z1,Z2,Z3,Z4,Z5,Z6,Z7,Z8,Z9,Ja,Jb,Jc,Jd,Je,Jf,Jg,Jh,Ji,Jj,Jk,Jl,Jm,Jn,Jo,Jp,Jq,Jr,Js,Jt,Ju,Jv,Jw,Jx,Jy,Jz,J0,J1,J2,J3,J4,J5,J6,J7,J8,J9,Ka,Kb,Kc,Kd,Ke,Kf,Kg,Kh,Ki,Kj,Kk,Kl,Km,Kn,Ko,Kp,Kq,Kr,Ks,Kt,Ku,Kv,Kw,Kx,Ky,Kz,K0,K1,K2,K3,K4,K5,K6,K7,K8,K9,Ua,Ub,Uc,Ud,Ue,Uf,Ug,Uh,Ui,Uj,Uk,Ul,Um,Un,Uo,Up,Uq,Ur,Us,Ut,Uu,Uv,Uw,Ux,Uy,Uz,U0,U1,U2,U3,U4,U5,U6,U7,U8,U9,Va,Vb,Vc,Vd,Ve,Vf,Vg,Vh,Vi,Vj,Vk,Vl,Vm,Vn,Vo,Vp,Vq,Vr,Vs,Vt,Vu,Vv,Vw,Vx,Vy,Vz,V0,V1,V2,V3,V4,V5,V6,V7,V8,V9,Wa,Wb,Wc,Wd,We,Wf,Wg,Wh,Wi,Wj,Wk,Wl,Wm,Wn,Wo,Wp,Wq,Wr,Ws,Wt,Wu,Wv,Ww,Wx,Wy,Wz,W0,W1,W2,W3,W4,W5,W6,W7,W8,W9,Ha,Hb,Hc,Hd,He,Hf,Hg,Hh,Hi,Hj,Hk,Hl,Hm,Hn,Ho,Hp,Hq,Hr,Hs,Ht,Hu,Hv,Hw,Hx,Hy,Hz,H0,H1,H2,H3,H4,H5,H6,H7,H8,H9,Na,Nb,Nc,Nd,Ne,Nf,Ng,Nh,Ni,Nj,Nk,Nl,Nm,Nn,No,Np,Nq,Nr,Ns,Nt,Nu,Nv,Nw,Nx,Ny,Nz,N0,N1,N2,N3,N4,N5,N6,N7,N8,N9,Ba,Bb,Bc,Bd,Be,Bf,Bg,Bh,Bi,Bj,Bk,Bl,Bm,Bn,Bo,Bp,Bq,Br,Bs,Bt,Bu,Bv,Bw,Bx,By,Bz,BA,BB,BC,hd,hr,l0,l1])
  | seq0 f v m s =>
    obtain ⟨fl, R, rfl⟩ := hs
    refine ⟨fl, ?_⟩
    have l0 : 0 < R.length + 1 + 1 := by omega
    have l1 : 1 < R.length + 1 + 1 := by omega
    unfold canonR
    cases fl <;> (sym => simp [Qa,Qb,Qc,Qd,Qe,Qf,Qg,Qh,Qi,Qj,Qk,Ql,Qm,Qn,Qo,Qp,Qq,Qr,Qs,Qt,Qu,Qv,Qw,Qx,Qy,Qz,Q0,Q1,Q2,Q3,Q4,Q5,Q6,Q7,Q8,Q9,Xa,Xb,Xc,Xd,Xe,Xf,Xg,Xh,Xi,Xj,Xk,Xl,Xm,Xn,Xo,Xp,Xq,Xr,Xs,Xt,Xu,Xv,Xw,Xx,Xy,Xz,X0,X1,X2,X3,X4,X5,X6,X7,X8,X9,Ya,Yb,Yc,Yd,Ye,Yf,Yg,Yh,Yi,Yj,Yk,Yl,Ym,Yn,Yo,Yp,Yq,Yr,Ys,Yt,Yu,Yv,Yw,Yx,Yy,Yz,Y0,Y1,Y2,Y3,Y4,Y5,Y6,Y7,Y8,Y9,Za,Zb,Zc,Zd,Ze,Zf,Zg,Zh,Zi,Zj,Zk,Zl,Zm,Zn,Zo,Zp,Zq,Zr,Zs,Zt,Zu,Zv,Zw,Zx,Zy,Zz,Z0,Z1,Z2,Z3,Z4,Z5,Z6,Z7,Z8,Z9,Ja,Jb,Jc,Jd,Je,Jf,Jg,Jh,Ji,Jj,Jk,Jl,Jm,Jn,Jo,Jp,Jq,Jr,Js,Jt,Ju,Jv,Jw,Jx,Jy,Jz,J0,J1,J2,J3,J4,J5,J6,J7,J8,J9,Ka,Kb,Kc,Kd,Ke,Kf,Kg,Kh,Ki,Kj,Kk,Kl,Km,Kn,Ko,Kp,Kq,Kr,Ks,Kt,Ku,Kv,Kw,Kx,Ky,Kz,K0,K1,K2,K3,K4,K5,K6,K7,K8,K9,Ua,Ub,Uc,Ud,Ue,Uf,Ug,Uh,Ui,Uj,Uk,Ul,Um,Un,Uo,Up,Uq,Ur,Us,Ut,Uu,Uv,Uw,Ux,Uy,Uz,U0,U1,U2,U3,U4,U5,U6,U7,U8,U9,Va,Vb,Vc,Vd,Ve,Vf,Vg,Vh,Vi,Vj,Vk,Vl,Vm,Vn,Vo,Vp,Vq,Vr,Vs,Vt,Vu,Vv,Vw,Vx,Vy,Vz,V0,V1,V2,V3,V4,V5,V6,V7,V8,V9,Wa,Wb,Wc,Wd,We,Wf,Wg,Wh,Wi,Wj,Wk,Wl,Wm,Wn,Wo,Wp,Wq,Wr,Ws,Wt,Wu,Wv,Ww,Wx,Wy,Wz,W0,W1,W2,W3,W4,W5,W6,W7,W8,W9,Ha,Hb,Hc,Hd,He,Hf,Hg,Hh,Hi,Hj,Hk,Hl,Hm,Hn,Ho,Hp,Hq,Hr,Hs,Ht,Hu,Hv,Hw,Hx,Hy,Hz,H0,H1,H2,H3,H4,H5,H6,H7,H8,H9,Na,Nb,Nc,Nd,Ne,Nf,Ng,Nh,Ni,Nj,Nk,Nl,Nm,Nn,No,Np,Nq,Nr,Ns,Nt,Nu,Nv,Nw,Nx,Ny,Nz,N0,N1,N2,N3,N4,N5,N6,N7,N8,N9,Ba,Bb,Bc,Bd,Be,Bf,Bg,Bh,Bi,Bj,Bk,Bl,Bm,Bn,Bo,Bp,Bq,Br,Bs,Bt,Bu,Bv,Bw,Bx,By,Bz,BA,BB,BC,hd,hr,l0,l1])
  | txt0 t =>
    obtain ⟨fl, R, rfl⟩ := hs
    refine ⟨fl, ?_⟩
    have l0 : 0 < R.length + 1 + 1 := by omega
    have l1 : 1 < R.length + 1 + 1 := by omega
    unfold canonR
    cases fl <;> (sym => simp [Qa,Qb,Qc,Qd,Qe,Qf,Qg,Qh,Qi,Qj,Qk,Ql,Qm,Qn,Qo,Qp,Qq,Qr,Qs,Qt,Qu,Qv,Qw,Qx,Qy,Qz,Q0,Q1,Q2,Q3,Q4,Q5,Q6,Q7,Q8,Q9,Xa,Xb,Xc,Xd,Xe,Xf,Xg,Xh,Xi,Xj,Xk,Xl,Xm,Xn,Xo,Xp,Xq,Xr,Xs,Xt,Xu,Xv,Xw,Xx,Xy,Xz,X0,X1,X2,X3,X4,X5,X6,X7,X8,X9,Ya,Yb,Yc,Yd,Ye,Yf,Yg,Yh,Yi,Yj,Yk,Yl,Ym,Yn,Yo,Yp,Yq,Yr,Ys,Yt,Yu,Yv,Yw,Yx,Yy,Yz,Y0,Y1,Y2,Y3,Y4,Y5,Y6,Y7,Y8,Y9,Za,Zb,Zc,Zd,Ze,Zf,Zg,Zh,Zi,Zj,Zk,Zl,Zm,Zn,Zo,Zp,Zq,Zr,Zs,Zt,Zu,Zv,Zw,Zx,Zy,Zz,Z0,Z1,Z2,Z3,Z4,Z5,Z6,Z7,Z8,Z9,Ja,Jb,Jc,Jd,Je,Jf,Jg,Jh,Ji,Jj,Jk,Jl,Jm,Jn,Jo,Jp,Jq,Jr,Js,Jt,Ju,Jv,Jw,Jx,Jy,Jz,J0,J1,J2,J3,J4,J5,J6,J7,J8,J9,Ka,Kb,Kc,Kd,Ke,Kf,Kg,Kh,Ki,Kj,Kk,Kl,Km,Kn,Ko,Kp,Kq,Kr,Ks,Kt,Ku,Kv,Kw,Kx,Ky,Kz,K0,K1,K2,K3,K4,K5,K6,K7,K8,K9,Ua,Ub,Uc,Ud,Ue,Uf,Ug,Uh,Ui,Uj,Uk,Ul,Um,Un,Uo,Up,Uq,Ur,Us,Ut,Uu,Uv,Uw,Ux,Uy,Uz,U0,U1,U2,U3,U4,U5,U6,U7,U8,U9,Va,Vb,Vc,Vd,Ve,Vf,Vg,Vh,Vi,Vj,Vk,Vl,Vm,Vn,Vo,Vp,Vq,Vr,Vs,Vt,Vu,Vv,Vw,Vx,Vy,Vz,V0,V1,V2,V3,V4,V5,V6,V7,V8,V9,Wa,Wb,Wc,Wd,We,Wf,Wg,Wh,Wi,Wj,Wk,Wl,Wm,Wn,Wo,Wp,Wq,Wr,Ws,Wt,Wu,Wv,Ww,Wx,Wy,Wz,W0,W1,W2,W3,W4,W5,W6,W7,W8,W9,Ha,Hb,Hc,Hd,He,Hf,Hg,Hh,Hi,Hj,Hk,Hl,Hm,Hn,Ho,Hp,Hq,Hr,Hs,Ht,Hu,Hv,Hw,Hx,Hy,Hz,H0,H1,H2,H3,H4,H5,H6,H7,H8,H9,Na,Nb,Nc,Nd,Ne,Nf,Ng,Nh,Ni,Nj,Nk,Nl,Nm,Nn,No,Np,Nq,Nr,Ns,Nt,Nu,Nv,Nw,Nx,Ny,Nz,N0,N1,N2,N3,N4,N5,N6,N7,N8,N9,Ba,Bb,Bc,Bd,Be,Bf,Bg,Bh,Bi,Bj,Bk,Bl,Bm,Bn,Bo,Bp,Bq,Br,Bs,Bt,Bu,Bv,Bw,Bx,By,Bz,BA,BB,BC,hd,hr,l0,l1])
  | seq1 v m s q x =>
    obtain ⟨j, gg, R, rfl, hj, hrow⟩ := hs
    refine ⟨false, ?_⟩
    unfold canonR
    have l0 : 0 < R.length + 1 + 1 := by omega
    have l1 : 1 < R.length + 1 + 1 := by omega
    have j0 : ¬ j = 0 := by omega
    have j1 : ¬ j = 1 := by omega
    have k0 : ¬ 0 = j := by omega
    have k1 : ¬ 1 = j := by omega
    have jl : j < R.length + 1 + 1 := by
      have := (List.getElem?_eq_some_iff.1 hrow).1
      simpa using this
    have jn : ¬ j < 0 := by omega
    have b0 : (j == 0) = false := by simpa using j0
    have b1 : (j == 1) = false := by simpa using j1
    have d0 : (0 == j) = false := by simpa using k0
    have d1 : (1 == j) = false := by simpa using k1
    have jj : (j == j) = true := by simp
    have je : List.elem j [0, 1] = false := by simp [j0, j1]
    have ji : List.idxOf? j [0, 1, j] = some 2 := by simp [List.idxOf?_cons, d0, d1]
    (sym => simp [Qa,Qb,Qc,Qd,Qe,Qf,Qg,Qh,Qi,Qj,Qk,Ql,Qm,Qn,Qo,Qp,Qq,Qr,Qs,Qt,Qu,Qv,Qw,Qx,Qy,Qz,Q0,Q1,Q2,Q3,Q4,Q5,Q6,Q7,Q8,Q9,Xa,Xb,Xc,Xd,Xe,Xf,Xg,Xh,Xi,Xj,Xk,Xl,Xm,Xn,Xo,Xp,Xq,Xr,Xs,Xt,Xu,Xv,Xw,Xx,Xy,Xz,X0,X1,X2,X3,X4,X5,X6,X7,X8,X9,Ya,Yb,Yc,Yd,Ye,Yf,Yg,Yh,Yi,Yj,Yk,Yl,Ym,Yn,Yo,Yp,Yq,Yr,Ys,Yt,Yu,Yv,Yw,Yx,Yy,Yz,Y0,Y1,Y2,Y3,Y4,Y5,Y6,Y7,Y8,Y9,Za,Zb,Zc,Zd,Ze,Zf,Zg,Zh,Zi,Zj,Zk,Zl,Zm,Zn,Zo,Zp,Zq,Zr,Zs,Zt,Zu,Zv,Zw,Zx,Zy,Zz,Z0,Z1,Z2,Z3,Z4,Z5,Z6,Z7,Z8,Z9,Ja,Jb,Jc,Jd,Je,Jf,Jg,Jh,Ji,Jj,Jk,Jl,Jm,Jn,Jo,Jp,Jq,Jr,Js,Jt,Ju,Jv,Jw,Jx,Jy,Jz,J0,J1,J2,J3,J4,J5,J6,J7,J8,J9,Ka,Kb,Kc,Kd,Ke,Kf,Kg,Kh,Ki,Kj,Kk,Kl,Km,Kn,Ko,Kp,Kq,Kr,Ks,Kt,Ku,Kv,Kw,Kx,Ky,Kz,K0,K1,K2,K3,K4,K5,K6,K7,K8,K9,Ua,Ub,Uc,Ud,Ue,Uf,Ug,Uh,Ui,Uj,Uk,Ul,Um,Un,Uo,Up,Uq,Ur,Us,Ut,Uu,Uv,Uw,Ux,Uy,Uz,U0,U1,U2,U3,U4,U5,U6,U7,U8,U9,Va,Vb,Vc,Vd,Ve,Vf,Vg,Vh,Vi,Vj,Vk,Vl,Vm,Vn,Vo,Vp,Vq,Vr,Vs,Vt,Vu,Vv,Vw,Vx,Vy,Vz,V0,V1,V2,V3,V4,V5,V6,V7,V8,V9,Wa,Wb,Wc,Wd,We,Wf,Wg,Wh,Wi,Wj,Wk,Wl,Wm,Wn,Wo,Wp,Wq,Wr,Ws,Wt,Wu,Wv,Ww,Wx,Wy,Wz,W0,W1,W2,W3,W4,W5,W6,W7,W8,W9,Ha,Hb,Hc,Hd,He,Hf,Hg,Hh,Hi,Hj,Hk,Hl,Hm,Hn,Ho,Hp,Hq,Hr,Hs,Ht,Hu,Hv,Hw,Hx,Hy,Hz,H0,H1,H2,H3,H4,H5,H6,H7,H8,H9,Na,Nb,Nc,Nd,Ne,Nf,Ng,Nh,Ni,Nj,Nk,Nl,Nm,Nn,No,Np,Nq,Nr,Ns,Nt,Nu,Nv,Nw,Nx,Ny,Nz,N0,N1,N2,N3,N4,N5,N6,N7,N8,N9,Ba,Bb,Bc,Bd,Be,Bf,Bg,Bh,Bi,Bj,Bk,Bl,Bm,Bn,Bo,Bp,Bq,Br,Bs,Bt,Bu,Bv,Bw,Bx,By,Bz,BA,BB,BC,hd,hr,hrow,jn,je,ji,jj,b0,b1,d0,d1,j0,j1,k0,k1,jl,l0,l1])
  | txt1 t ts =>
    obtain ⟨j, gg, R, rfl, hj, hrow⟩ := hs
    refine ⟨false, ?_⟩
    unfold canonR
    have l0 : 0 < R.length + 1 + 1 := by omega
    have l1 : 1 < R.length + 1 + 1 := by omega
    have j0 : ¬ j = 0 := by omega
    have j1 : ¬ j = 1 := by omega
    have k0 : ¬ 0 = j := by omega
    have k1 : ¬ 1 = j := by omega
    have jl : j < R.length + 1 + 1 := by
      have := (List.getElem?_eq_some_iff.1 hrow).1
      simpa using this
    have jn : ¬ j < 0 := by omega
    have b0 : (j == 0) = false := by simpa using j0
    have b1 : (j == 1) = false := by simpa using j1
    have d0 : (0 == j) = false := by simpa using k0
    have d1 : (1 == j) = false := by simpa using k1
    have jj : (j == j) = true := by simp
    have je : List.elem j [0, 1] = false := by simp [j0, j1]
    have ji : List.idxOf? j [0, 1, j] = some 2 := by simp [List.idxOf?_cons, d0, d1]
    (sym => simp [Qa,Qb,Qc,Qd,Qe,Qf,Qg,Qh,Qi,Qj,Qk,Ql,Qm,Qn,Qo,Qp,Qq,Qr,Qs,Qt,Qu,Qv,Qw,Qx,Qy,Qz,Q0,Q1,Q2,Q3,Q4,Q5,Q6,Q7,Q8,Q9,Xa,Xb,Xc,Xd,Xe,Xf,Xg,Xh,Xi,Xj,Xk,Xl,Xm,Xn,Xo,Xp,Xq,Xr,Xs,Xt,Xu,Xv,Xw,Xx,Xy,Xz,X0,X1,X2,X3,X4,X5,X6,X7,X8,X9,Ya,Yb,Yc,Yd,Ye,Yf,Yg,Yh,Yi,Yj,Yk,Yl,Ym,Yn,Yo,Yp,Yq,Yr,Ys,Yt,Yu,Yv,Yw,Yx,Yy,Yz,Y0,Y1,Y2,Y3,Y4,Y5,Y6,Y7,Y8,Y9,Za,Zb,Zc,Zd,Ze,Zf,Zg,Zh,Zi,Zj,Zk,Zl,Zm,Zn,Zo,Zp,Zq,Zr,Zs,Zt,Zu,Zv,Zw,Zx,Zy,Zz,Z0,Z1,Z2,Z3,Z4,Z5,Z6,Z7,Z8,Z9,Ja,Jb,Jc,Jd,Je,Jf,Jg,Jh,Ji,Jj,Jk,Jl,Jm,Jn,Jo,Jp,Jq,Jr,Js,Jt,Ju,Jv,Jw,Jx,Jy,Jz,J0,J1,J2,J3,J4,J5,J6,J7,J8,J9,Ka,Kb,Kc,Kd,Ke,Kf,Kg,Kh,Ki,Kj,Kk,Kl,Km,Kn,Ko,Kp,Kq,Kr,Ks,Kt,Ku,Kv,Kw,Kx,Ky,Kz,K0,K1,K2,K3,K4,K5,K6,K7,K8,K9,Ua,Ub,Uc,Ud,Ue,Uf,Ug,Uh,Ui,Uj,Uk,Ul,Um,Un,Uo,Up,Uq,Ur,Us,Ut,Uu,Uv,Uw,Ux,Uy,Uz,U0,U1,U2,U3,U4,U5,U6,U7,U8,U9,Va,Vb,Vc,Vd,Ve,Vf,Vg,Vh,Vi,Vj,Vk,Vl,Vm,Vn,Vo,Vp,Vq,Vr,Vs,Vt,Vu,Vv,Vw,Vx,Vy,Vz,V0,V1,V2,V3,V4,V5,V6,V7,V8,V9,Wa,Wb,Wc,Wd,We,Wf,Wg,Wh,Wi,Wj,Wk,Wl,Wm,Wn,Wo,Wp,Wq,Wr,Ws,Wt,Wu,Wv,Ww,Wx,Wy,Wz,W0,W1,W2,W3,W4,W5,W6,W7,W8,W9,Ha,Hb,Hc,Hd,He,Hf,Hg,Hh,Hi,Hj,Hk,Hl,Hm,Hn,Ho,Hp,Hq,Hr,Hs,Ht,Hu,Hv,Hw,Hx,Hy,Hz,H0,H1,H2,H3,H4,H5,H6,H7,H8,H9,Na,Nb,Nc,Nd,Ne,Nf,Ng,Nh,Ni,Nj,Nk,Nl,Nm,Nn,No,Np,Nq,Nr,Ns,Nt,Nu,Nv,Nw,Nx,Ny,Nz,N0,N1,N2,N3,N4,N5,N6,N7,N8,N9,Ba,Bb,Bc,Bd,Be,Bf,Bg,Bh,Bi,Bj,Bk,Bl,Bm,Bn,Bo,Bp,Bq,Br,Bs,Bt,Bu,Bv,Bw,Bx,By,Bz,BA,BB,BC,hd,hr,hrow,jn,je,ji,jj,b0,b1,d0,d1,j0,j1,k0,k1,jl,l0,l1])
theorem st_cons {o : ARow} {h : List ARow} {s : VS} (hs : St o h s) : ∃ R, h = o :: R := by
  cases s with
  | nil | esc | seq0 | txt0 => obtain ⟨_, _, e⟩ := hs; exact ⟨_, e⟩
  | seq1 | txt1 => obtain ⟨_, _, _, e, _⟩ := hs; exact ⟨_, e⟩
theorem st_swap {o o' : ARow} {R : List ARow} {s : VS} (hs : St o (o :: R) s) : St o' (o' :: R) s := by
  cases s with
  | nil | esc | seq0 | txt0 => obtain ⟨f, R', e⟩ := hs; cases e; exact ⟨f, R', rfl⟩
  | seq1 | txt1 =>
    obtain ⟨i, g, R', e, hi, hr⟩ := hs
    cases e
    refine ⟨i, g, R', rfl, hi, ?_⟩
    obtain ⟨k, rfl⟩ : ∃ k, i = k + 1 := ⟨i - 1, by omega⟩
    simpa using hr
/-- What a parser tells of all that comes. -/
def vtRun : VS → List Int → List Act'
  | _, [] => []
  | s, c :: l => (vtPut s c).1 ++ vtRun (vtPut s c).2 l
theorem actG_len (l : List Act') : (actG l).length = l.length := by simp [actG]
theorem actG_app (l m : List Act') : actG (l ++ m) = actG l ++ actG m := by simp [actG]
theorem vtOne_nil (c : Int) : vtOne .nil c = if c = 27 then ([], .esc false ⟨#[]⟩) else (wordT c, .nil) := rfl
theorem vtOne_esc (v : Bool) (i : ByteArray) (c : Int) : vtOne (.esc v i) c = if c = 27 then ([], .esc false ⟨#[]⟩) else if c = 24 ∨ c = 26 then (wordT c, .nil) else if 160 ≤ c then (wordT c, .nil) else if c < 32 ∨ c = 127 then (wordT c, .esc v i) else vtEsc v i c := rfl
theorem vtOne_seq0 (f v : Bool) (m : Int) (i : ByteArray) (c : Int) : vtOne (.seq0 f v m i) c = if c = 27 then ([], .esc false ⟨#[]⟩) else if c = 24 ∨ c = 26 then (wordT c, .nil) else if 160 ≤ c then (wordT c, .nil) else if c < 32 ∨ c = 127 then (wordT c, .seq0 f v m i) else vtSeq0 f v m i c := rfl
theorem vtOne_seq1 (v : Bool) (m : Int) (i : ByteArray) (q : List Int) (x c : Int) : vtOne (.seq1 v m i q x) c = if c = 27 then ([], .esc false ⟨#[]⟩) else if c = 24 ∨ c = 26 then (wordT c, .nil) else if 160 ≤ c then (wordT c, .nil) else if c < 32 ∨ c = 127 then (wordT c, .seq1 v m i q x) else vtSeq1 v m i q x c := rfl
theorem vtOne_txt0 (t : Bool) (c : Int) : vtOne (.txt0 t) c = if c = 27 then (vtEnd (.txt0 t), .esc false ⟨#[]⟩) else if c = 24 ∨ c = 26 then (wordT c, .nil) else if c = 7 then (vtEnd (.txt0 t), .nil) else if 32 ≤ c ∧ c ≠ 127 then ([], .txt1 t [c]) else ([], .txt0 t) := rfl
theorem vtOne_txt1 (t : Bool) (ts : List Int) (c : Int) : vtOne (.txt1 t ts) c = if c = 27 then (vtEnd (.txt1 t ts), .esc false ⟨#[]⟩) else if c = 24 ∨ c = 26 then (wordT c, .nil) else if c = 7 then (vtEnd (.txt1 t ts), .nil) else if 32 ≤ c ∧ c ≠ 127 ∧ ts.length < 64 then ([], .txt1 t (ts ++ [c])) else ([], .txt1 t ts) := rfl
theorem put_count (s : VS) (c : Int) : (vtPut s c).1.length ≤ 2 := by
  have hw : ∀ c, (wordT c).length ≤ 1 := fun c => by unfold wordT; split <;> (try split) <;> simp
  have he : ∀ s, (vtEnd s).length ≤ 1 := fun s => by
    cases s with
    | txt0 t => cases t <;> simp [vtEnd]
    | txt1 t ts => cases t <;> simp [vtEnd]
    | _ => simp [vtEnd]
  have h1 : ∀ v s c, (vtEsc v s c).1.length ≤ 1 := fun v s c => by
    unfold vtEsc
    repeat' split
    all_goals simp
  have h2 : ∀ f v m s c, (vtSeq0 f v m s c).1.length ≤ 1 := fun f v m s c => by
    unfold vtSeq0
    repeat' split
    all_goals simp
  have h3 : ∀ v m s q x c, (vtSeq1 v m s q x c).1.length ≤ 1 := fun v m s q x c => by
    unfold vtSeq1
    repeat' split
    all_goals simp
  unfold vtPut
  split
  · rw [List.length_append]
    have := he s
    have := h1 false ⟨#[]⟩ (pointT c - 64)
    omega
  · have w := hw (pointT c)
    have e := he s
    have z : ([] : List Act').length ≤ 2 := by simp
    cases s with
    | nil => rw [vtOne_nil]; split <;> dsimp only <;> first | omega | simp
    | esc v i => rw [vtOne_esc]; have := h1 v i (pointT c); repeat' split
                 all_goals (first | (dsimp only; omega) | omega | simp)
    | seq0 f v m i => rw [vtOne_seq0]; have := h2 f v m i (pointT c); repeat' split
                      all_goals (first | (dsimp only; omega) | omega | simp)
    | seq1 v m i q x => rw [vtOne_seq1]; have := h3 v m i q x (pointT c); repeat' split
                        all_goals (first | (dsimp only; omega) | omega | simp)
    | txt0 t => rw [vtOne_txt0]; repeat' split
                all_goals (first | (dsimp only; omega) | omega | simp)
    | txt1 t ts => rw [vtOne_txt1]; repeat' split
                   all_goals (first | (dsimp only; omega) | omega | simp)
theorem parse_loop (l : List Int) (bl fl : Bool) (hl : l.length ≤ 10000) : ∀ m i, i + m = l.length → ∀ (s : VS) (out : List Act') (g : Nat) (h : List ARow), vtOk2 s → out.length ≤ 2 * i → St ⟨6, g, true, actG out⟩ h s →
    ∃ R, aE G FT 0 lp_vt_Parse_0 ⟨[(3, .own 0 g 0 out.length out.length), (4, .ptr 1 0 0 0), (8, .data bl 1 (rn l) fl), (9, .int .i64 l.length), (10, .int .i64 i)], h⟩ =
      some (.exit 0, ⟨[(3, .own 0 0 0 (out ++ vtRun s (l.drop i)).length (out ++ vtRun s (l.drop i)).length), (4, .ptr 1 0 0 0), (8, .data bl 1 (rn l) fl), (9, .int .i64 l.length), (10, .int .i64 l.length), (11, .bool false)], ⟨6, 0, true, actG (out ++ vtRun s (l.drop i))⟩ :: R⟩) := by
  intro m
  induction m with
  | zero =>
    intro i hi s out g h ok ho hs
    obtain rfl : i = l.length := by omega
    obtain ⟨f2, hg⟩ := parse_gc (actG out) g out.length (.data bl 1 (rn l) fl) (by simp [AV.ids]) (fun _ _ _ _ => by simp [AV.ren]) l.length l.length h s hs
    have h4 : ¬ (l.length : Int) < l.length := by omega
    refine ⟨canonR s f2, ?_⟩
    have e : out ++ vtRun s (l.drop l.length) = out := by simp [vtRun]
    rw [lp_vt_Parse_0, y_loop, hg, e]
    (sym => simp [Qa,Qb,Qc,Qd,Qe,Qf,Qg,Qh,Qi,Qj,Qk,Ql,Qm,Qn,Qo,Qp,Qq,Qr,Qs,Qt,Qu,Qv,Qw,Qx,Qy,Qz,Q0,Q1,Q2,Q3,Q4,Q5,Q6,Q7,Q8,Q9,Xa,Xb,Xc,Xd,Xe,Xf,Xg,Xh,Xi,Xj,Xk,Xl,Xm,Xn,Xo,Xp,Xq,Xr,Xs,Xt,Xu,Xv,Xw,Xx,Xy,Xz,X0,X1,X2,X3,X4,X5,X6,X7,X8,X9,Ya,Yb,Yc,Yd,Ye,Yf,Yg,Yh,Yi,Yj,Yk,Yl,Ym,Yn,Yo,Yp,Yq,Yr,Ys,Yt,Yu,Yv,Yw,Yx,Yy,Yz,Y0,Y1,Y2,Y3,Y4,Y5,Y6,Y7,Y8,Y9,Za,Zb,Zc,Zd,Ze,Zf,Zg,Zh,Zi,Zj,Zk,Zl,Zm,Zn,Zo,Zp,Zq,Zr,Zs,Zt,Zu,Zv,Zw,Zx,Zy,Zz,Z0,Z1,Z2,Z3,Z4,Z5,Z6,Z7,Z8,Z9,Ja,Jb,Jc,Jd,Je,Jf,Jg,Jh,Ji,Jj,Jk,Jl,Jm,Jn,Jo,Jp,Jq,Jr,Js,Jt,Ju,Jv,Jw,Jx,Jy,Jz,J0,J1,J2,J3,J4,J5,J6,J7,J8,J9,Ka,Kb,Kc,Kd,Ke,Kf,Kg,Kh,Ki,Kj,Kk,Kl,Km,Kn,Ko,Kp,Kq,Kr,Ks,Kt,Ku,Kv,Kw,Kx,Ky,Kz,K0,K1,K2,K3,K4,K5,K6,K7,K8,K9,Ua,Ub,Uc,Ud,Ue,Uf,Ug,Uh,Ui,Uj,Uk,Ul,Um,Un,Uo,Up,Uq,Ur,Us,Ut,Uu,Uv,Uw,Ux,Uy,Uz,U0,U1,U2,U3,U4,U5,U6,U7,U8,U9,Va,Vb,Vc,Vd,Ve,Vf,Vg,Vh,Vi,Vj,Vk,Vl,Vm,Vn,Vo,Vp,Vq,Vr,Vs,Vt,Vu,Vv,Vw,Vx,Vy,Vz,V0,V1,V2,V3,V4,V5,V6,V7,V8,V9,Wa,Wb,Wc,Wd,We,Wf,Wg,Wh,Wi,Wj,Wk,Wl,Wm,Wn,Wo,Wp,Wq,Wr,Ws,Wt,Wu,Wv,Ww,Wx,Wy,Wz,W0,W1,W2,W3,W4,W5,W6,W7,W8,W9,Ha,Hb,Hc,Hd,He,Hf,Hg,Hh,Hi,Hj,Hk,Hl,Hm,Hn,Ho,Hp,Hq,Hr,Hs,Ht,Hu,Hv,Hw,Hx,Hy,Hz,H0,H1,H2,H3,H4,H5,H6,H7,H8,H9,Na,Nb,Nc,Nd,Ne,Nf,Ng,Nh,Ni,Nj,Nk,Nl,Nm,Nn,No,Np,Nq,Nr,Ns,Nt,Nu,Nv,Nw,Nx,Ny,Nz,N0,N1,N2,N3,N4,N5,N6,N7,N8,N9,Ba,Bb,Bc,Bd,Be,Bf,Bg,Bh,Bi,Bj,Bk,Bl,Bm,Bn,Bo,Bp,Bq,Br,Bs,Bt,Bu,Bv,Bw,Bx,By,Bz,BA,BB,BC,q18R0.eq_1,q18R1.eq_1,q18R2.eq_1,q18R3.eq_1,q18R4.eq_1,q18R5.eq_1,q18R6.eq_1,q18R7.eq_1,q18R8.eq_1,c_vt_Parse.eq_1,c_vt_Parse_L0.eq_1,h4])
  | succ m ih =>
    intro i hi s out g h ok ho hs
    have hn : i < l.length := by omega
    obtain ⟨f2, hg⟩ := parse_gc (actG out) g out.length (.data bl 1 (rn l) fl) (by simp [AV.ids]) (fun _ _ _ _ => by simp [AV.ren]) l.length i h s hs
    obtain ⟨b, hy, p1, p2⟩ := put_ok G ⟨6, 0, true, actG out⟩ f2 s ok l[i]
    have hc := put_count s l[i]
    obtain ⟨hr, rfl⟩ := st_cons p2
    have ol := actG_len out
    have od : (actG out).take out.length = actG out := List.take_of_length_le (by rw [ol]; exact Nat.le_refl _)
    have pl := actG_len (vtPut s l[i]).1
    have hw := wrap_nat (n := i) (by omega)
    have q1 : (i : Int) < l.length := by omega
    have a1 := rn_at hn
    have rl := rn_len l
    have q2 : (out.length + (vtPut s l[i]).1.length) * 80 ≤ 140737488355328 := by omega
    have q3 : out.length ≤ out.length := Nat.le_refl _
    obtain ⟨R, ih⟩ := ih (i + 1) (by omega) (vtPut s l[i]).2 (out ++ (vtPut s l[i]).1) 1 (⟨6, 1, true, actG (out ++ (vtPut s l[i]).1)⟩ :: hr) (put_ok2 s ok _) (by rw [List.length_append]; omega) (st_swap p2)
    refine ⟨R, ?_⟩
    rw [show out ++ vtRun s (l.drop i) = out ++ (vtPut s l[i]).1 ++ vtRun (vtPut s l[i]).2 (l.drop (i + 1)) from by rw [List.drop_eq_getElem_cons hn, vtRun, List.append_assoc]]
    rw [lp_vt_Parse_0] at ih
    rw [lp_vt_Parse_0, y_loop, hg, ← ih]
    (sym => simp [Qa,Qb,Qc,Qd,Qe,Qf,Qg,Qh,Qi,Qj,Qk,Ql,Qm,Qn,Qo,Qp,Qq,Qr,Qs,Qt,Qu,Qv,Qw,Qx,Qy,Qz,Q0,Q1,Q2,Q3,Q4,Q5,Q6,Q7,Q8,Q9,Xa,Xb,Xc,Xd,Xe,Xf,Xg,Xh,Xi,Xj,Xk,Xl,Xm,Xn,Xo,Xp,Xq,Xr,Xs,Xt,Xu,Xv,Xw,Xx,Xy,Xz,X0,X1,X2,X3,X4,X5,X6,X7,X8,X9,Ya,Yb,Yc,Yd,Ye,Yf,Yg,Yh,Yi,Yj,Yk,Yl,Ym,Yn,Yo,Yp,Yq,Yr,Ys,Yt,Yu,Yv,Yw,Yx,Yy,Yz,Y0,Y1,Y2,Y3,Y4,Y5,Y6,Y7,Y8,Y9,Za,Zb,Zc,Zd,Ze,Zf,Zg,Zh,Zi,Zj,Zk,Zl,Zm,Zn,Zo,Zp,Zq,Zr,Zs,Zt,Zu,Zv,Zw,Zx,Zy,Zz,Z0,Z1,Z2,Z3,Z4,Z5,Z6,Z7,Z8,Z9,Ja,Jb,Jc,Jd,Je,Jf,Jg,Jh,Ji,Jj,Jk,Jl,Jm,Jn,Jo,Jp,Jq,Jr,Js,Jt,Ju,Jv,Jw,Jx,Jy,Jz,J0,J1,J2,J3,J4,J5,J6,J7,J8,J9,Ka,Kb,Kc,Kd,Ke,Kf,Kg,Kh,Ki,Kj,Kk,Kl,Km,Kn,Ko,Kp,Kq,Kr,Ks,Kt,Ku,Kv,Kw,Kx,Ky,Kz,K0,K1,K2,K3,K4,K5,K6,K7,K8,K9,Ua,Ub,Uc,Ud,Ue,Uf,Ug,Uh,Ui,Uj,Uk,Ul,Um,Un,Uo,Up,Uq,Ur,Us,Ut,Uu,Uv,Uw,Ux,Uy,Uz,U0,U1,U2,U3,U4,U5,U6,U7,U8,U9,Va,Vb,Vc,Vd,Ve,Vf,Vg,Vh,Vi,Vj,Vk,Vl,Vm,Vn,Vo,Vp,Vq,Vr,Vs,Vt,Vu,Vv,Vw,Vx,Vy,Vz,V0,V1,V2,V3,V4,V5,V6,V7,V8,V9,Wa,Wb,Wc,Wd,We,Wf,Wg,Wh,Wi,Wj,Wk,Wl,Wm,Wn,Wo,Wp,Wq,Wr,Ws,Wt,Wu,Wv,Ww,Wx,Wy,Wz,W0,W1,W2,W3,W4,W5,W6,W7,W8,W9,Ha,Hb,Hc,Hd,He,Hf,Hg,Hh,Hi,Hj,Hk,Hl,Hm,Hn,Ho,Hp,Hq,Hr,Hs,Ht,Hu,Hv,Hw,Hx,Hy,Hz,H0,H1,H2,H3,H4,H5,H6,H7,H8,H9,Na,Nb,Nc,Nd,Ne,Nf,Ng,Nh,Ni,Nj,Nk,Nl,Nm,Nn,No,Np,Nq,Nr,Ns,Nt,Nu,Nv,Nw,Nx,Ny,Nz,N0,N1,N2,N3,N4,N5,N6,N7,N8,N9,Ba,Bb,Bc,Bd,Be,Bf,Bg,Bh,Bi,Bj,Bk,Bl,Bm,Bn,Bo,Bp,Bq,Br,Bs,Bt,Bu,Bv,Bw,Bx,By,Bz,BA,BB,BC,q18R0.eq_1,q18R1.eq_1,q18R2.eq_1,q18R3.eq_1,q18R4.eq_1,q18R5.eq_1,q18R6.eq_1,q18R7.eq_1,q18R8.eq_1,c_vt_Parse.eq_1,c_vt_Parse_L0.eq_1,q1,hw,a1,p1,ol,od,pl,q2,rl,actG_app,List.length_append])
theorem parse_P (l : List Int) (bl fl : Bool) (hl : l.length ≤ 10000) : aP G FT n_vt_Parse [.data bl 1 (rn l) fl] = some (.data false 6 (actG (vtRun .nil l)) false) := by
  obtain ⟨R, k⟩ := parse_loop G l bl fl hl l.length 0 (by omega) .nil [] 0 [⟨6, 0, true, []⟩, ⟨10, 0, true, [[.nilfn, .bool false, .bool false, .bool false, .bool false, .bool false, .int .i32 0, .str ⟨#[]⟩, .data false 1 [] true, .data false 1 [] true]]⟩] trivial (by simp) ⟨true, [], rfl⟩
  rw [List.drop_zero, List.nil_append, List.length_nil] at k
  have ol := actG_len (vtRun .nil l)
  have od : (actG (vtRun .nil l)).take (vtRun .nil l).length = actG (vtRun .nil l) := List.take_of_length_le (by rw [ol]; exact Nat.le_refl _)
  have rl := rn_len l
  simp only [Int.natCast_zero] at k
  unfold aP
  rw [run_vt_Parse]
  (sym => simp [Qa,Qb,Qc,Qd,Qe,Qf,Qg,Qh,Qi,Qj,Qk,Ql,Qm,Qn,Qo,Qp,Qq,Qr,Qs,Qt,Qu,Qv,Qw,Qx,Qy,Qz,Q0,Q1,Q2,Q3,Q4,Q5,Q6,Q7,Q8,Q9,Xa,Xb,Xc,Xd,Xe,Xf,Xg,Xh,Xi,Xj,Xk,Xl,Xm,Xn,Xo,Xp,Xq,Xr,Xs,Xt,Xu,Xv,Xw,Xx,Xy,Xz,X0,X1,X2,X3,X4,X5,X6,X7,X8,X9,Ya,Yb,Yc,Yd,Ye,Yf,Yg,Yh,Yi,Yj,Yk,Yl,Ym,Yn,Yo,Yp,Yq,Yr,Ys,Yt,Yu,Yv,Yw,Yx,Yy,Yz,Y0,Y1,Y2,Y3,Y4,Y5,Y6,Y7,Y8,Y9,Za,Zb,Zc,Zd,Ze,Zf,Zg,Zh,Zi,Zj,Zk,Zl,Zm,Zn,Zo,Zp,Zq,Zr,Zs,Zt,Zu,Zv,Zw,Zx,Zy,Zz,Z0,Z1,Z2,Z3,Z4,Z5,Z6,Z7,Z8,Z9,Ja,Jb,Jc,Jd,Je,Jf,Jg,Jh,Ji,Jj,Jk,Jl,Jm,Jn,Jo,Jp,Jq,Jr,Js,Jt,Ju,Jv,Jw,Jx,Jy,Jz,J0,J1,J2,J3,J4,J5,J6,J7,J8,J9,Ka,Kb,Kc,Kd,Ke,Kf,Kg,Kh,Ki,Kj,Kk,Kl,Km,Kn,Ko,Kp,Kq,Kr,Ks,Kt,Ku,Kv,Kw,Kx,Ky,Kz,K0,K1,K2,K3,K4,K5,K6,K7,K8,K9,Ua,Ub,Uc,Ud,Ue,Uf,Ug,Uh,Ui,Uj,Uk,Ul,Um,Un,Uo,Up,Uq,Ur,Us,Ut,Uu,Uv,Uw,Ux,Uy,Uz,U0,U1,U2,U3,U4,U5,U6,U7,U8,U9,Va,Vb,Vc,Vd,Ve,Vf,Vg,Vh,Vi,Vj,Vk,Vl,Vm,Vn,Vo,Vp,Vq,Vr,Vs,Vt,Vu,Vv,Vw,Vx,Vy,Vz,V0,V1,V2,V3,V4,V5,V6,V7,V8,V9,Wa,Wb,Wc,Wd,We,Wf,Wg,Wh,Wi,Wj,Wk,Wl,Wm,Wn,Wo,Wp,Wq,Wr,Ws,Wt,Wu,Wv,Ww,Wx,Wy,Wz,W0,W1,W2,W3,W4,W5,W6,W7,W8,W9,Ha,Hb,Hc,Hd,He,Hf,Hg,Hh,Hi,Hj,Hk,Hl,Hm,Hn,Ho,Hp,Hq,Hr,Hs,Ht,Hu,Hv,Hw,Hx,Hy,Hz,H0,H1,H2,H3,H4,H5,H6,H7,H8,H9,Na,Nb,Nc,Nd,Ne,Nf,Ng,Nh,Ni,Nj,Nk,Nl,Nm,Nn,No,Np,Nq,Nr,Ns,Nt,Nu,Nv,Nw,Nx,Ny,Nz,N0,N1,N2,N3,N4,N5,N6,N7,N8,N9,Ba,Bb,Bc,Bd,Be,Bf,Bg,Bh,Bi,Bj,Bk,Bl,Bm,Bn,Bo,Bp,Bq,Br,Bs,Bt,Bu,Bv,Bw,Bx,By,Bz,BA,BB,BC,q18R0.eq_1,q18R1.eq_1,q18R2.eq_1,q18R3.eq_1,q18R4.eq_1,q18R5.eq_1,q18R6.eq_1,q18R7.eq_1,q18R8.eq_1,c_vt_Parse.eq_1,run_vt_New,q17R0.eq_1,q17R1.eq_1,c_vt_New.eq_1,k,ol,od,rl])
end Go.Proofs.Ytkkcblfoaldckaa
