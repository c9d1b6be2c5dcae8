/- Grids: the document's blanks and copies; how great a grid is. Conditions: the table lies as laid. -/
import Derived.Test.YtmmkjbcklghopaaDoorGr3
set_option linter.unusedVariables false
set_option linter.unusedSimpArgs false
set_option linter.unusedSectionVars false
set_option maxRecDepth 20000
set_option maxHeartbeats 2000000
namespace Go.Proofs.YtmmkjbcklghopaaDoor
open Go
variable (G : Nat → Option (List AV)) (hG : G 0 = some tabC)
section
variable (g : List Rw) (b f : Bool)
theorem rcopy_loop (hl : Lo g) : ∀ j i, i + j = g.length → ∀ st, agc 0 [0, 3, 4] st = some ⟨[(0, .data b 1 (gA g) f), (3, .own 0 0 0 i i), (4, .int .i64 i)], [⟨1, 0, true, gA ((g.map fr).take i)⟩]⟩ →
    aE G FT 0 lp_ref15_Copy_0 st = some (.exit 0, ⟨[(0, .data b 1 (gA g) f), (3, .own 0 0 0 g.length g.length), (4, .int .i64 g.length), (8, .bool false)], [⟨1, 0, true, gA (g.map fr)⟩]⟩) := by
  have hml : (g.map fr).length = g.length := by simp
  intro j
  induction j with
  | zero =>
    intro i hi st hst
    obtain rfl : i = g.length := by omega
    have h4 : ¬ (g.length : Int) < g.length := by omega
    have t : List.take g.length (g.map fr) = g.map fr := List.take_of_length_le (by omega)
    rw [t] at hst
    rw [lp_ref15_Copy_0, y_loop, hst]
    (sym => simp [Qa,Qb,Qc,Qd,Qe,Qf,Qg,Qh,Qi,Qj,Qk,Ql,Qm,Qn,Qo,Qp,Qq,Qr,Qs,Qt,Qu,Qv,Qw,Qx,Qy,Qz,Q0,Q1,Q2,Q3,Q4,Q5,Q6,Q7,Q8,Q9,Xa,Xb,Xc,Xd,Xe,Xf,Xg,Xh,Xi,Xj,Xk,Xl,Xm,Xn,Xo,Xp,Xq,Xr,Xs,Xt,Xu,Xv,Xw,Xx,Xy,Xz,X0,X1,X2,X3,X4,X5,X6,X7,X8,X9,Ya,Yb,Yc,Yd,Ye,Yf,Yg,Yh,Yi,Yj,Yk,Yl,Ym,Yn,Yo,Yp,Yq,Yr,Ys,Yt,Yu,Yv,Yw,Yx,Yy,Yz,Y0,Y1,Y2,Y3,Y4,Y5,Y6,Y7,Y8,Y9,Za,Zb,Zc,Zd,Ze,Zf,Zg,Zh,Zi,Zj,Zk,Zl,Zm,Zn,Zo,Zp,Zq,Zr,Zs,Zt,Zu,Zv,Zw,Zx,Zy,Zz,Z0,Z1,Z2,Z3,Z4,Z5,Z6,Z7,Z8,Z9,Ja,Jb,Jc,Jd,Je,Jf,Jg,Jh,Ji,Jj,Jk,Jl,Jm,Jn,Jo,Jp,Jq,Jr,Js,Jt,Ju,Jv,Jw,Jx,Jy,Jz,J0,J1,J2,J3,J4,J5,J6,J7,J8,J9,Ka,Kb,Kc,Kd,Ke,Kf,Kg,Kh,Ki,Kj,Kk,Kl,Km,Kn,Ko,Kp,Kq,Kr,Ks,Kt,Ku,Kv,Kw,Kx,Ky,Kz,K0,K1,K2,K3,K4,K5,K6,K7,K8,K9,Ua,Ub,Uc,Ud,Ue,Uf,Ug,Uh,Ui,Uj,Uk,Ul,Um,Un,Uo,Up,Uq,Ur,Us,Ut,Uu,Uv,Uw,Ux,Uy,Uz,U0,U1,U2,U3,U4,U5,U6,U7,U8,U9,Va,Vb,Vc,Vd,Ve,Vf,Vg,Vh,Vi,Vj,Vk,Vl,Vm,Vn,Vo,Vp,Vq,Vr,Vs,Vt,Vu,Vv,Vw,Vx,Vy,Vz,V0,V1,V2,V3,V4,V5,V6,V7,V8,V9,Wa,Wb,Wc,Wd,We,Wf,Wg,Wh,Wi,Wj,Wk,Wl,Wm,Wn,Wo,Wp,Wq,Wr,Ws,Wt,Wu,Wv,Ww,Wx,Wy,Wz,W0,W1,W2,W3,W4,W5,W6,W7,W8,W9,Ha,Hb,Hc,Hd,He,Hf,Hg,Hh,Hi,Hj,Hk,Hl,Hm,Hn,Ho,Hp,Hq,Hr,Hs,Ht,Hu,Hv,Hw,Hx,Hy,Hz,H0,H1,H2,H3,H4,H5,H6,H7,H8,H9,Na,Nb,Nc,Nd,Ne,Nf,Ng,Nh,Ni,Nj,Nk,Nl,Nm,Nn,No,Np,Nq,Nr,Ns,Nt,Nu,Nv,Nw,Nx,Ny,Nz,N0,N1,N2,N3,N4,N5,N6,N7,N8,N9,Ba,Bb,Bc,Bd,Be,Bf,Bg,Bh,Bi,Bj,Bk,Bl,Bm,Bn,Bo,Bp,Bq,Br,Bs,Bt,Bu,Bv,Bw,Bx,By,Bz,BA,BB,BC,q60R0.eq_1,q60R1.eq_1,q60R2.eq_1,q60R3.eq_1,q60R5.eq_1,q60R4.eq_1,q60R6.eq_1,c_ref15_Copy.eq_1,c_ref15_Copy_L0.eq_1,h4,gA_len])
  | succ j ih =>
    intro i hi st hst
    have ih := ih (i + 1) (by omega)
    have q1 : (i : Int) < g.length := by omega
    have hw := wrap_nat (n := i) (by have := hl.1; omega)
    have a1 := gA_get (g := g) (i := i) (by omega)
    have hn : i < g.length := by omega
    have b1 : (rat g i).1.length * 48 ≤ 140737488355328 := by have := hl.2 i hn; omega
    have b2 : (i + 1) * 24 ≤ 140737488355328 := by have := hl.1; omega
    have hlen2 : ((g.map fr).take i).length = i := by rw [List.length_take, hml]; omega
    have hlen : (gA ((g.map fr).take i)).length = i := by rw [gA_len, hlen2]
    have t2 : List.take i (gA ((g.map fr).take i)) = gA ((g.map fr).take i) := List.take_of_length_le (by omega)
    have e2 : gA ((g.map fr).take i) ++ [[.data false 7 (cells (rat g i).1) false]] = gA ((g.map fr).take (i + 1)) := by
      rw [gA_one, gA_app, List.take_succ_eq_append_getElem (by omega)]
      congr 3
      have := rat_fr g hn
      simp only [rat] at this
      simpa [hn, rat] using this.symm
    rw [lp_ref15_Copy_0] at ih
    rw [lp_ref15_Copy_0, y_loop, hst]
    (sym => simp [Qa,Qb,Qc,Qd,Qe,Qf,Qg,Qh,Qi,Qj,Qk,Ql,Qm,Qn,Qo,Qp,Qq,Qr,Qs,Qt,Qu,Qv,Qw,Qx,Qy,Qz,Q0,Q1,Q2,Q3,Q4,Q5,Q6,Q7,Q8,Q9,Xa,Xb,Xc,Xd,Xe,Xf,Xg,Xh,Xi,Xj,Xk,Xl,Xm,Xn,Xo,Xp,Xq,Xr,Xs,Xt,Xu,Xv,Xw,Xx,Xy,Xz,X0,X1,X2,X3,X4,X5,X6,X7,X8,X9,Ya,Yb,Yc,Yd,Ye,Yf,Yg,Yh,Yi,Yj,Yk,Yl,Ym,Yn,Yo,Yp,Yq,Yr,Ys,Yt,Yu,Yv,Yw,Yx,Yy,Yz,Y0,Y1,Y2,Y3,Y4,Y5,Y6,Y7,Y8,Y9,Za,Zb,Zc,Zd,Ze,Zf,Zg,Zh,Zi,Zj,Zk,Zl,Zm,Zn,Zo,Zp,Zq,Zr,Zs,Zt,Zu,Zv,Zw,Zx,Zy,Zz,Z0,Z1,Z2,Z3,Z4,Z5,Z6,Z7,Z8,Z9,Ja,Jb,Jc,Jd,Je,Jf,Jg,Jh,Ji,Jj,Jk,Jl,Jm,Jn,Jo,Jp,Jq,Jr,Js,Jt,Ju,Jv,Jw,Jx,Jy,Jz,J0,J1,J2,J3,J4,J5,J6,J7,J8,J9,Ka,Kb,Kc,Kd,Ke,Kf,Kg,Kh,Ki,Kj,Kk,Kl,Km,Kn,Ko,Kp,Kq,Kr,Ks,Kt,Ku,Kv,Kw,Kx,Ky,Kz,K0,K1,K2,K3,K4,K5,K6,K7,K8,K9,Ua,Ub,Uc,Ud,Ue,Uf,Ug,Uh,Ui,Uj,Uk,Ul,Um,Un,Uo,Up,Uq,Ur,Us,Ut,Uu,Uv,Uw,Ux,Uy,Uz,U0,U1,U2,U3,U4,U5,U6,U7,U8,U9,Va,Vb,Vc,Vd,Ve,Vf,Vg,Vh,Vi,Vj,Vk,Vl,Vm,Vn,Vo,Vp,Vq,Vr,Vs,Vt,Vu,Vv,Vw,Vx,Vy,Vz,V0,V1,V2,V3,V4,V5,V6,V7,V8,V9,Wa,Wb,Wc,Wd,We,Wf,Wg,Wh,Wi,Wj,Wk,Wl,Wm,Wn,Wo,Wp,Wq,Wr,Ws,Wt,Wu,Wv,Ww,Wx,Wy,Wz,W0,W1,W2,W3,W4,W5,W6,W7,W8,W9,Ha,Hb,Hc,Hd,He,Hf,Hg,Hh,Hi,Hj,Hk,Hl,Hm,Hn,Ho,Hp,Hq,Hr,Hs,Ht,Hu,Hv,Hw,Hx,Hy,Hz,H0,H1,H2,H3,H4,H5,H6,H7,H8,H9,Na,Nb,Nc,Nd,Ne,Nf,Ng,Nh,Ni,Nj,Nk,Nl,Nm,Nn,No,Np,Nq,Nr,Ns,Nt,Nu,Nv,Nw,Nx,Ny,Nz,N0,N1,N2,N3,N4,N5,N6,N7,N8,N9,Ba,Bb,Bc,Bd,Be,Bf,Bg,Bh,Bi,Bj,Bk,Bl,Bm,Bn,Bo,Bp,Bq,Br,Bs,Bt,Bu,Bv,Bw,Bx,By,Bz,BA,BB,BC,q60R0.eq_1,q60R1.eq_1,q60R2.eq_1,q60R3.eq_1,q60R5.eq_1,q60R4.eq_1,q60R6.eq_1,c_ref15_Copy.eq_1,c_ref15_Copy_L0.eq_1,q1,hw,a1,b1,b2,hlen,hlen2,t2,e2,gA_len,cells_len,List.isEmpty_nil]; tactic => (
      refine ih _ ?_
      (sym => simp [Qa,Qb,Qc,Qd,Qe,Qf,Qg,Qh,Qi,Qj,Qk,Ql,Qm,Qn,Qo,Qp,Qq,Qr,Qs,Qt,Qu,Qv,Qw,Qx,Qy,Qz,Q0,Q1,Q2,Q3,Q4,Q5,Q6,Q7,Q8,Q9,Xa,Xb,Xc,Xd,Xe,Xf,Xg,Xh,Xi,Xj,Xk,Xl,Xm,Xn,Xo,Xp,Xq,Xr,Xs,Xt,Xu,Xv,Xw,Xx,Xy,Xz,X0,X1,X2,X3,X4,X5,X6,X7,X8,X9,Ya,Yb,Yc,Yd,Ye,Yf,Yg,Yh,Yi,Yj,Yk,Yl,Ym,Yn,Yo,Yp,Yq,Yr,Ys,Yt,Yu,Yv,Yw,Yx,Yy,Yz,Y0,Y1,Y2,Y3,Y4,Y5,Y6,Y7,Y8,Y9,Za,Zb,Zc,Zd,Ze,Zf,Zg,Zh,Zi,Zj,Zk,Zl,Zm,Zn,Zo,Zp,Zq,Zr,Zs,Zt,Zu,Zv,Zw,Zx,Zy,Zz,Z0,Z1,Z2,Z3,Z4,Z5,Z6,Z7,Z8,Z9,Ja,Jb,Jc,Jd,Je,Jf,Jg,Jh,Ji,Jj,Jk,Jl,Jm,Jn,Jo,Jp,Jq,Jr,Js,Jt,Ju,Jv,Jw,Jx,Jy,Jz,J0,J1,J2,J3,J4,J5,J6,J7,J8,J9,Ka,Kb,Kc,Kd,Ke,Kf,Kg,Kh,Ki,Kj,Kk,Kl,Km,Kn,Ko,Kp,Kq,Kr,Ks,Kt,Ku,Kv,Kw,Kx,Ky,Kz,K0,K1,K2,K3,K4,K5,K6,K7,K8,K9,Ua,Ub,Uc,Ud,Ue,Uf,Ug,Uh,Ui,Uj,Uk,Ul,Um,Un,Uo,Up,Uq,Ur,Us,Ut,Uu,Uv,Uw,Ux,Uy,Uz,U0,U1,U2,U3,U4,U5,U6,U7,U8,U9,Va,Vb,Vc,Vd,Ve,Vf,Vg,Vh,Vi,Vj,Vk,Vl,Vm,Vn,Vo,Vp,Vq,Vr,Vs,Vt,Vu,Vv,Vw,Vx,Vy,Vz,V0,V1,V2,V3,V4,V5,V6,V7,V8,V9,Wa,Wb,Wc,Wd,We,Wf,Wg,Wh,Wi,Wj,Wk,Wl,Wm,Wn,Wo,Wp,Wq,Wr,Ws,Wt,Wu,Wv,Ww,Wx,Wy,Wz,W0,W1,W2,W3,W4,W5,W6,W7,W8,W9,Ha,Hb,Hc,Hd,He,Hf,Hg,Hh,Hi,Hj,Hk,Hl,Hm,Hn,Ho,Hp,Hq,Hr,Hs,Ht,Hu,Hv,Hw,Hx,Hy,Hz,H0,H1,H2,H3,H4,H5,H6,H7,H8,H9,Na,Nb,Nc,Nd,Ne,Nf,Ng,Nh,Ni,Nj,Nk,Nl,Nm,Nn,No,Np,Nq,Nr,Ns,Nt,Nu,Nv,Nw,Nx,Ny,Nz,N0,N1,N2,N3,N4,N5,N6,N7,N8,N9,Ba,Bb,Bc,Bd,Be,Bf,Bg,Bh,Bi,Bj,Bk,Bl,Bm,Bn,Bo,Bp,Bq,Br,Bs,Bt,Bu,Bv,Bw,Bx,By,Bz,BA,BB,BC,e2])))
theorem rcopy_P (hl : Lo g) : aP G FT n_ref15_Copy [.data b 1 (gA g) f] = some (.data false 1 (gA (g.map fr)) false) := by
  unfold aP
  rw [run_ref15_Copy]
  have key := rcopy_loop G g b f hl g.length 0 (by omega)
  have z0 : gA ((g.map fr).take 0) = [] := rfl
  simp only [Int.natCast_zero, z0] at key
  have key := key ⟨[(0, .data b 1 (gA g) f), (3, .own 0 0 0 0 0), (4, .int .i64 0)], [⟨1, 0, true, []⟩]⟩ (by
    (sym => simp [Qa,Qb,Qc,Qd,Qe,Qf,Qg,Qh,Qi,Qj,Qk,Ql,Qm,Qn,Qo,Qp,Qq,Qr,Qs,Qt,Qu,Qv,Qw,Qx,Qy,Qz,Q0,Q1,Q2,Q3,Q4,Q5,Q6,Q7,Q8,Q9,Xa,Xb,Xc,Xd,Xe,Xf,Xg,Xh,Xi,Xj,Xk,Xl,Xm,Xn,Xo,Xp,Xq,Xr,Xs,Xt,Xu,Xv,Xw,Xx,Xy,Xz,X0,X1,X2,X3,X4,X5,X6,X7,X8,X9,Ya,Yb,Yc,Yd,Ye,Yf,Yg,Yh,Yi,Yj,Yk,Yl,Ym,Yn,Yo,Yp,Yq,Yr,Ys,Yt,Yu,Yv,Yw,Yx,Yy,Yz,Y0,Y1,Y2,Y3,Y4,Y5,Y6,Y7,Y8,Y9,Za,Zb,Zc,Zd,Ze,Zf,Zg,Zh,Zi,Zj,Zk,Zl,Zm,Zn,Zo,Zp,Zq,Zr,Zs,Zt,Zu,Zv,Zw,Zx,Zy,Zz,Z0,Z1,Z2,Z3,Z4,Z5,Z6,Z7,Z8,Z9,Ja,Jb,Jc,Jd,Je,Jf,Jg,Jh,Ji,Jj,Jk,Jl,Jm,Jn,Jo,Jp,Jq,Jr,Js,Jt,Ju,Jv,Jw,Jx,Jy,Jz,J0,J1,J2,J3,J4,J5,J6,J7,J8,J9,Ka,Kb,Kc,Kd,Ke,Kf,Kg,Kh,Ki,Kj,Kk,Kl,Km,Kn,Ko,Kp,Kq,Kr,Ks,Kt,Ku,Kv,Kw,Kx,Ky,Kz,K0,K1,K2,K3,K4,K5,K6,K7,K8,K9,Ua,Ub,Uc,Ud,Ue,Uf,Ug,Uh,Ui,Uj,Uk,Ul,Um,Un,Uo,Up,Uq,Ur,Us,Ut,Uu,Uv,Uw,Ux,Uy,Uz,U0,U1,U2,U3,U4,U5,U6,U7,U8,U9,Va,Vb,Vc,Vd,Ve,Vf,Vg,Vh,Vi,Vj,Vk,Vl,Vm,Vn,Vo,Vp,Vq,Vr,Vs,Vt,Vu,Vv,Vw,Vx,Vy,Vz,V0,V1,V2,V3,V4,V5,V6,V7,V8,V9,Wa,Wb,Wc,Wd,We,Wf,Wg,Wh,Wi,Wj,Wk,Wl,Wm,Wn,Wo,Wp,Wq,Wr,Ws,Wt,Wu,Wv,Ww,Wx,Wy,Wz,W0,W1,W2,W3,W4,W5,W6,W7,W8,W9,Ha,Hb,Hc,Hd,He,Hf,Hg,Hh,Hi,Hj,Hk,Hl,Hm,Hn,Ho,Hp,Hq,Hr,Hs,Ht,Hu,Hv,Hw,Hx,Hy,Hz,H0,H1,H2,H3,H4,H5,H6,H7,H8,H9,Na,Nb,Nc,Nd,Ne,Nf,Ng,Nh,Ni,Nj,Nk,Nl,Nm,Nn,No,Np,Nq,Nr,Ns,Nt,Nu,Nv,Nw,Nx,Ny,Nz,N0,N1,N2,N3,N4,N5,N6,N7,N8,N9,Ba,Bb,Bc,Bd,Be,Bf,Bg,Bh,Bi,Bj,Bk,Bl,Bm,Bn,Bo,Bp,Bq,Br,Bs,Bt,Bu,Bv,Bw,Bx,By,Bz,BA,BB,BC]))
  have hlen : (gA (g.map fr)).length = g.length := by simp [gA_len]
  have t2 : List.take g.length (gA (g.map fr)) = gA (g.map fr) := List.take_of_length_le (by omega)
  (sym => simp [Qa,Qb,Qc,Qd,Qe,Qf,Qg,Qh,Qi,Qj,Qk,Ql,Qm,Qn,Qo,Qp,Qq,Qr,Qs,Qt,Qu,Qv,Qw,Qx,Qy,Qz,Q0,Q1,Q2,Q3,Q4,Q5,Q6,Q7,Q8,Q9,Xa,Xb,Xc,Xd,Xe,Xf,Xg,Xh,Xi,Xj,Xk,Xl,Xm,Xn,Xo,Xp,Xq,Xr,Xs,Xt,Xu,Xv,Xw,Xx,Xy,Xz,X0,X1,X2,X3,X4,X5,X6,X7,X8,X9,Ya,Yb,Yc,Yd,Ye,Yf,Yg,Yh,Yi,Yj,Yk,Yl,Ym,Yn,Yo,Yp,Yq,Yr,Ys,Yt,Yu,Yv,Yw,Yx,Yy,Yz,Y0,Y1,Y2,Y3,Y4,Y5,Y6,Y7,Y8,Y9,Za,Zb,Zc,Zd,Ze,Zf,Zg,Zh,Zi,Zj,Zk,Zl,Zm,Zn,Zo,Zp,Zq,Zr,Zs,Zt,Zu,Zv,Zw,Zx,Zy,Zz,Z0,Z1,Z2,Z3,Z4,Z5,Z6,Z7,Z8,Z9,Ja,Jb,Jc,Jd,Je,Jf,Jg,Jh,Ji,Jj,Jk,Jl,Jm,Jn,Jo,Jp,Jq,Jr,Js,Jt,Ju,Jv,Jw,Jx,Jy,Jz,J0,J1,J2,J3,J4,J5,J6,J7,J8,J9,Ka,Kb,Kc,Kd,Ke,Kf,Kg,Kh,Ki,Kj,Kk,Kl,Km,Kn,Ko,Kp,Kq,Kr,Ks,Kt,Ku,Kv,Kw,Kx,Ky,Kz,K0,K1,K2,K3,K4,K5,K6,K7,K8,K9,Ua,Ub,Uc,Ud,Ue,Uf,Ug,Uh,Ui,Uj,Uk,Ul,Um,Un,Uo,Up,Uq,Ur,Us,Ut,Uu,Uv,Uw,Ux,Uy,Uz,U0,U1,U2,U3,U4,U5,U6,U7,U8,U9,Va,Vb,Vc,Vd,Ve,Vf,Vg,Vh,Vi,Vj,Vk,Vl,Vm,Vn,Vo,Vp,Vq,Vr,Vs,Vt,Vu,Vv,Vw,Vx,Vy,Vz,V0,V1,V2,V3,V4,V5,V6,V7,V8,V9,Wa,Wb,Wc,Wd,We,Wf,Wg,Wh,Wi,Wj,Wk,Wl,Wm,Wn,Wo,Wp,Wq,Wr,Ws,Wt,Wu,Wv,Ww,Wx,Wy,Wz,W0,W1,W2,W3,W4,W5,W6,W7,W8,W9,Ha,Hb,Hc,Hd,He,Hf,Hg,Hh,Hi,Hj,Hk,Hl,Hm,Hn,Ho,Hp,Hq,Hr,Hs,Ht,Hu,Hv,Hw,Hx,Hy,Hz,H0,H1,H2,H3,H4,H5,H6,H7,H8,H9,Na,Nb,Nc,Nd,Ne,Nf,Ng,Nh,Ni,Nj,Nk,Nl,Nm,Nn,No,Np,Nq,Nr,Ns,Nt,Nu,Nv,Nw,Nx,Ny,Nz,N0,N1,N2,N3,N4,N5,N6,N7,N8,N9,Ba,Bb,Bc,Bd,Be,Bf,Bg,Bh,Bi,Bj,Bk,Bl,Bm,Bn,Bo,Bp,Bq,Br,Bs,Bt,Bu,Bv,Bw,Bx,By,Bz,BA,BB,BC,q60R0.eq_1,q60R1.eq_1,q60R2.eq_1,q60R3.eq_1,q60R5.eq_1,q60R4.eq_1,q60R6.eq_1,c_ref15_Copy.eq_1,key,hlen,t2])
/-- So many cells stand in the rows. -/
def sumL (g : List Rw) : Nat := (g.map fun r => r.1.length).foldr (· + ·) 0
def greatB (g : List Rw) : Bool := decide (210 < g.length) || decide (2000 < sumL g)
theorem sum_take (g : List Rw) {i : Nat} (h : i < g.length) : sumL (g.take (i + 1)) = sumL (g.take i) + (rat g i).1.length := by
  have : rat g i = g[i] := by simp [rat, h]
  have fold : ∀ (l : List Nat) (a : Nat), List.foldr (· + ·) a l = List.foldr (· + ·) 0 l + a := fun l a => by
    induction l with
    | nil => simp
    | cons x l ih => simp [ih]; omega
  rw [List.take_succ_eq_append_getElem h, this]
  simp only [sumL, List.map_append, List.foldr_append, List.map_cons, List.map_nil, List.foldr_cons, List.foldr_nil]
  rw [fold]; omega
theorem sum_le (g : List Rw) (i : Nat) : sumL (g.take i) ≤ sumL g := by
  have : ∀ (a b : List Nat), List.foldr (· + ·) 0 a ≤ List.foldr (· + ·) 0 (a ++ b) := fun a b => by
    induction a with
    | nil => simp
    | cons x a ih => simp only [List.cons_append, List.foldr_cons]; omega
  unfold sumL
  conv => rhs; rw [← List.take_append_drop i g, List.map_append]
  exact this _ _
theorem great_loop (h210 : g.length ≤ 210) : ∀ m i, i + m = g.length → sumL (g.take i) ≤ 2000 →
    (sumL g ≤ 2000 → ∃ n, aE G FT 0 lp_law15_great_0 ⟨[(0, .data b 1 (gA g) f), (3, .int .i64 (sumL (g.take i) : Nat)), (4, .int .i64 i)], []⟩ = some (.exit 0, n)) ∧
    (¬ sumL g ≤ 2000 → aE G FT 0 lp_law15_great_0 ⟨[(0, .data b 1 (gA g) f), (3, .int .i64 (sumL (g.take i) : Nat)), (4, .int .i64 i)], []⟩ = some (.ret, ⟨[(2, .bool true)], []⟩)) := by
  intro m
  have gc : ∀ x a : Int, agc 0 [0, 3, 4] ⟨[(0, .data b 1 (gA g) f), (3, .int .i64 x), (4, .int .i64 a)], []⟩ = some ⟨[(0, .data b 1 (gA g) f), (3, .int .i64 x), (4, .int .i64 a)], []⟩ := fun x a => by
    (sym => simp [Qa,Qb,Qc,Qd,Qe,Qf,Qg,Qh,Qi,Qj,Qk,Ql,Qm,Qn,Qo,Qp,Qq,Qr,Qs,Qt,Qu,Qv,Qw,Qx,Qy,Qz,Q0,Q1,Q2,Q3,Q4,Q5,Q6,Q7,Q8,Q9,Xa,Xb,Xc,Xd,Xe,Xf,Xg,Xh,Xi,Xj,Xk,Xl,Xm,Xn,Xo,Xp,Xq,Xr,Xs,Xt,Xu,Xv,Xw,Xx,Xy,Xz,X0,X1,X2,X3,X4,X5,X6,X7,X8,X9,Ya,Yb,Yc,Yd,Ye,Yf,Yg,Yh,Yi,Yj,Yk,Yl,Ym,Yn,Yo,Yp,Yq,Yr,Ys,Yt,Yu,Yv,Yw,Yx,Yy,Yz,Y0,Y1,Y2,Y3,Y4,Y5,Y6,Y7,Y8,Y9,Za,Zb,Zc,Zd,Ze,Zf,Zg,Zh,Zi,Zj,Zk,Zl,Zm,Zn,Zo,Zp,Zq,Zr,Zs,Zt,Zu,Zv,Zw,Zx,Zy,Zz,Z0,Z1,Z2,Z3,Z4,Z5,Z6,Z7,Z8,Z9,Ja,Jb,Jc,Jd,Je,Jf,Jg,Jh,Ji,Jj,Jk,Jl,Jm,Jn,Jo,Jp,Jq,Jr,Js,Jt,Ju,Jv,Jw,Jx,Jy,Jz,J0,J1,J2,J3,J4,J5,J6,J7,J8,J9,Ka,Kb,Kc,Kd,Ke,Kf,Kg,Kh,Ki,Kj,Kk,Kl,Km,Kn,Ko,Kp,Kq,Kr,Ks,Kt,Ku,Kv,Kw,Kx,Ky,Kz,K0,K1,K2,K3,K4,K5,K6,K7,K8,K9,Ua,Ub,Uc,Ud,Ue,Uf,Ug,Uh,Ui,Uj,Uk,Ul,Um,Un,Uo,Up,Uq,Ur,Us,Ut,Uu,Uv,Uw,Ux,Uy,Uz,U0,U1,U2,U3,U4,U5,U6,U7,U8,U9,Va,Vb,Vc,Vd,Ve,Vf,Vg,Vh,Vi,Vj,Vk,Vl,Vm,Vn,Vo,Vp,Vq,Vr,Vs,Vt,Vu,Vv,Vw,Vx,Vy,Vz,V0,V1,V2,V3,V4,V5,V6,V7,V8,V9,Wa,Wb,Wc,Wd,We,Wf,Wg,Wh,Wi,Wj,Wk,Wl,Wm,Wn,Wo,Wp,Wq,Wr,Ws,Wt,Wu,Wv,Ww,Wx,Wy,Wz,W0,W1,W2,W3,W4,W5,W6,W7,W8,W9,Ha,Hb,Hc,Hd,He,Hf,Hg,Hh,Hi,Hj,Hk,Hl,Hm,Hn,Ho,Hp,Hq,Hr,Hs,Ht,Hu,Hv,Hw,Hx,Hy,Hz,H0,H1,H2,H3,H4,H5,H6,H7,H8,H9,Na,Nb,Nc,Nd,Ne,Nf,Ng,Nh,Ni,Nj,Nk,Nl,Nm,Nn,No,Np,Nq,Nr,Ns,Nt,Nu,Nv,Nw,Nx,Ny,Nz,N0,N1,N2,N3,N4,N5,N6,N7,N8,N9,Ba,Bb,Bc,Bd,Be,Bf,Bg,Bh,Bi,Bj,Bk,Bl,Bm,Bn,Bo,Bp,Bq,Br,Bs,Bt,Bu,Bv,Bw,Bx,By,Bz,BA,BB,BC])
  induction m with
  | zero =>
    intro i hi hs
    obtain rfl : i = g.length := by omega
    have h4 : ¬ (g.length : Int) < g.length := by omega
    rw [List.take_length] at hs
    refine ⟨fun _ => ⟨⟨[(0, .data b 1 (gA g) f), (3, .int .i64 (sumL (g.take g.length) : Nat)), (4, .int .i64 g.length), (11, .bool false)], []⟩, ?_⟩, fun h => absurd hs h⟩
    rw [lp_law15_great_0, y_loop, gc]
    (sym => simp [Qa,Qb,Qc,Qd,Qe,Qf,Qg,Qh,Qi,Qj,Qk,Ql,Qm,Qn,Qo,Qp,Qq,Qr,Qs,Qt,Qu,Qv,Qw,Qx,Qy,Qz,Q0,Q1,Q2,Q3,Q4,Q5,Q6,Q7,Q8,Q9,Xa,Xb,Xc,Xd,Xe,Xf,Xg,Xh,Xi,Xj,Xk,Xl,Xm,Xn,Xo,Xp,Xq,Xr,Xs,Xt,Xu,Xv,Xw,Xx,Xy,Xz,X0,X1,X2,X3,X4,X5,X6,X7,X8,X9,Ya,Yb,Yc,Yd,Ye,Yf,Yg,Yh,Yi,Yj,Yk,Yl,Ym,Yn,Yo,Yp,Yq,Yr,Ys,Yt,Yu,Yv,Yw,Yx,Yy,Yz,Y0,Y1,Y2,Y3,Y4,Y5,Y6,Y7,Y8,Y9,Za,Zb,Zc,Zd,Ze,Zf,Zg,Zh,Zi,Zj,Zk,Zl,Zm,Zn,Zo,Zp,Zq,Zr,Zs,Zt,Zu,Zv,Zw,Zx,Zy,Zz,Z0,Z1,Z2,Z3,Z4,Z5,Z6,Z7,Z8,Z9,Ja,Jb,Jc,Jd,Je,Jf,Jg,Jh,Ji,Jj,Jk,Jl,Jm,Jn,Jo,Jp,Jq,Jr,Js,Jt,Ju,Jv,Jw,Jx,Jy,Jz,J0,J1,J2,J3,J4,J5,J6,J7,J8,J9,Ka,Kb,Kc,Kd,Ke,Kf,Kg,Kh,Ki,Kj,Kk,Kl,Km,Kn,Ko,Kp,Kq,Kr,Ks,Kt,Ku,Kv,Kw,Kx,Ky,Kz,K0,K1,K2,K3,K4,K5,K6,K7,K8,K9,Ua,Ub,Uc,Ud,Ue,Uf,Ug,Uh,Ui,Uj,Uk,Ul,Um,Un,Uo,Up,Uq,Ur,Us,Ut,Uu,Uv,Uw,Ux,Uy,Uz,U0,U1,U2,U3,U4,U5,U6,U7,U8,U9,Va,Vb,Vc,Vd,Ve,Vf,Vg,Vh,Vi,Vj,Vk,Vl,Vm,Vn,Vo,Vp,Vq,Vr,Vs,Vt,Vu,Vv,Vw,Vx,Vy,Vz,V0,V1,V2,V3,V4,V5,V6,V7,V8,V9,Wa,Wb,Wc,Wd,We,Wf,Wg,Wh,Wi,Wj,Wk,Wl,Wm,Wn,Wo,Wp,Wq,Wr,Ws,Wt,Wu,Wv,Ww,Wx,Wy,Wz,W0,W1,W2,W3,W4,W5,W6,W7,W8,W9,Ha,Hb,Hc,Hd,He,Hf,Hg,Hh,Hi,Hj,Hk,Hl,Hm,Hn,Ho,Hp,Hq,Hr,Hs,Ht,Hu,Hv,Hw,Hx,Hy,Hz,H0,H1,H2,H3,H4,H5,H6,H7,H8,H9,Na,Nb,Nc,Nd,Ne,Nf,Ng,Nh,Ni,Nj,Nk,Nl,Nm,Nn,No,Np,Nq,Nr,Ns,Nt,Nu,Nv,Nw,Nx,Ny,Nz,N0,N1,N2,N3,N4,N5,N6,N7,N8,N9,Ba,Bb,Bc,Bd,Be,Bf,Bg,Bh,Bi,Bj,Bk,Bl,Bm,Bn,Bo,Bp,Bq,Br,Bs,Bt,Bu,Bv,Bw,Bx,By,Bz,BA,BB,BC,q28R0.eq_1,q28R1.eq_1,q28R2.eq_1,q28R3.eq_1,q28R4.eq_1,q28R5.eq_1,q28R7.eq_1,q28R8.eq_1,q28R9.eq_1,q28R6.eq_1,q28R10.eq_1,c_law15_great.eq_1,c_law15_great_L0.eq_1,h4,gA_len])
  | succ m ih =>
    intro i hi hs
    have hn : i < g.length := by omega
    have q1 : (i : Int) < g.length := by omega
    have hw := wrap_nat (n := i) (by omega)
    have a1 := gA_get (g := g) (i := i) hn
    have hst := sum_take g hn
    have w1 : IntKind.i64.wrap (2000 - ((sumL (g.take i) : Nat) : Int)) = 2000 - ((sumL (g.take i) : Nat) : Int) := wrap_in _ (by omega) (by omega)
    by_cases h1 : sumL (g.take (i + 1)) ≤ 2000
    · have ih := ih (i + 1) (by omega) h1
      have h2 : ¬ (2000 - ((sumL (g.take i) : Nat) : Int) < ((rat g i).1.length : Int)) := by omega
      have w2 : IntKind.i64.wrap (((sumL (g.take i) : Nat) : Int) + ((rat g i).1.length : Int)) = ((sumL (g.take (i + 1)) : Nat) : Int) := by rw [wrap_in _ (by omega) (by omega)]; omega
      have e : aE G FT 0 lp_law15_great_0 ⟨[(0, .data b 1 (gA g) f), (3, .int .i64 (sumL (g.take i) : Nat)), (4, .int .i64 i)], []⟩ = aE G FT 0 lp_law15_great_0 ⟨[(0, .data b 1 (gA g) f), (3, .int .i64 (sumL (g.take (i + 1)) : Nat)), (4, .int .i64 ((i + 1 : Nat) : Int))], []⟩ := by
        rw [lp_law15_great_0, y_loop, gc]
        (sym => simp [Qa,Qb,Qc,Qd,Qe,Qf,Qg,Qh,Qi,Qj,Qk,Ql,Qm,Qn,Qo,Qp,Qq,Qr,Qs,Qt,Qu,Qv,Qw,Qx,Qy,Qz,Q0,Q1,Q2,Q3,Q4,Q5,Q6,Q7,Q8,Q9,Xa,Xb,Xc,Xd,Xe,Xf,Xg,Xh,Xi,Xj,Xk,Xl,Xm,Xn,Xo,Xp,Xq,Xr,Xs,Xt,Xu,Xv,Xw,Xx,Xy,Xz,X0,X1,X2,X3,X4,X5,X6,X7,X8,X9,Ya,Yb,Yc,Yd,Ye,Yf,Yg,Yh,Yi,Yj,Yk,Yl,Ym,Yn,Yo,Yp,Yq,Yr,Ys,Yt,Yu,Yv,Yw,Yx,Yy,Yz,Y0,Y1,Y2,Y3,Y4,Y5,Y6,Y7,Y8,Y9,Za,Zb,Zc,Zd,Ze,Zf,Zg,Zh,Zi,Zj,Zk,Zl,Zm,Zn,Zo,Zp,Zq,Zr,Zs,Zt,Zu,Zv,Zw,Zx,Zy,Zz,Z0,Z1,Z2,Z3,Z4,Z5,Z6,Z7,Z8,Z9,Ja,Jb,Jc,Jd,Je,Jf,Jg,Jh,Ji,Jj,Jk,Jl,Jm,Jn,Jo,Jp,Jq,Jr,Js,Jt,Ju,Jv,Jw,Jx,Jy,Jz,J0,J1,J2,J3,J4,J5,J6,J7,J8,J9,Ka,Kb,Kc,Kd,Ke,Kf,Kg,Kh,Ki,Kj,Kk,Kl,Km,Kn,Ko,Kp,Kq,Kr,Ks,Kt,Ku,Kv,Kw,Kx,Ky,Kz,K0,K1,K2,K3,K4,K5,K6,K7,K8,K9,Ua,Ub,Uc,Ud,Ue,Uf,Ug,Uh,Ui,Uj,Uk,Ul,Um,Un,Uo,Up,Uq,Ur,Us,Ut,Uu,Uv,Uw,Ux,Uy,Uz,U0,U1,U2,U3,U4,U5,U6,U7,U8,U9,Va,Vb,Vc,Vd,Ve,Vf,Vg,Vh,Vi,Vj,Vk,Vl,Vm,Vn,Vo,Vp,Vq,Vr,Vs,Vt,Vu,Vv,Vw,Vx,Vy,Vz,V0,V1,V2,V3,V4,V5,V6,V7,V8,V9,Wa,Wb,Wc,Wd,We,Wf,Wg,Wh,Wi,Wj,Wk,Wl,Wm,Wn,Wo,Wp,Wq,Wr,Ws,Wt,Wu,Wv,Ww,Wx,Wy,Wz,W0,W1,W2,W3,W4,W5,W6,W7,W8,W9,Ha,Hb,Hc,Hd,He,Hf,Hg,Hh,Hi,Hj,Hk,Hl,Hm,Hn,Ho,Hp,Hq,Hr,Hs,Ht,Hu,Hv,Hw,Hx,Hy,Hz,H0,H1,H2,H3,H4,H5,H6,H7,H8,H9,Na,Nb,Nc,Nd,Ne,Nf,Ng,Nh,Ni,Nj,Nk,Nl,Nm,Nn,No,Np,Nq,Nr,Ns,Nt,Nu,Nv,Nw,Nx,Ny,Nz,N0,N1,N2,N3,N4,N5,N6,N7,N8,N9,Ba,Bb,Bc,Bd,Be,Bf,Bg,Bh,Bi,Bj,Bk,Bl,Bm,Bn,Bo,Bp,Bq,Br,Bs,Bt,Bu,Bv,Bw,Bx,By,Bz,BA,BB,BC,q28R0.eq_1,q28R1.eq_1,q28R2.eq_1,q28R3.eq_1,q28R4.eq_1,q28R5.eq_1,q28R7.eq_1,q28R8.eq_1,q28R9.eq_1,q28R6.eq_1,q28R10.eq_1,c_law15_great.eq_1,c_law15_great_L0.eq_1,q1,hw,a1,w1,h2,w2,gA_len,cells_len])
      rw [e]; exact ih
    · have h2 : (2000 - ((sumL (g.take i) : Nat) : Int) < ((rat g i).1.length : Int)) := by omega
      have := sum_le g (i + 1)
      refine ⟨fun h => by omega, fun _ => ?_⟩
      rw [lp_law15_great_0, y_loop, gc]
      (sym => simp [Qa,Qb,Qc,Qd,Qe,Qf,Qg,Qh,Qi,Qj,Qk,Ql,Qm,Qn,Qo,Qp,Qq,Qr,Qs,Qt,Qu,Qv,Qw,Qx,Qy,Qz,Q0,Q1,Q2,Q3,Q4,Q5,Q6,Q7,Q8,Q9,Xa,Xb,Xc,Xd,Xe,Xf,Xg,Xh,Xi,Xj,Xk,Xl,Xm,Xn,Xo,Xp,Xq,Xr,Xs,Xt,Xu,Xv,Xw,Xx,Xy,Xz,X0,X1,X2,X3,X4,X5,X6,X7,X8,X9,Ya,Yb,Yc,Yd,Ye,Yf,Yg,Yh,Yi,Yj,Yk,Yl,Ym,Yn,Yo,Yp,Yq,Yr,Ys,Yt,Yu,Yv,Yw,Yx,Yy,Yz,Y0,Y1,Y2,Y3,Y4,Y5,Y6,Y7,Y8,Y9,Za,Zb,Zc,Zd,Ze,Zf,Zg,Zh,Zi,Zj,Zk,Zl,Zm,Zn,Zo,Zp,Zq,Zr,Zs,Zt,Zu,Zv,Zw,Zx,Zy,Zz,Z0,Z1,Z2,Z3,Z4,Z5,Z6,Z7,Z8,Z9,Ja,Jb,Jc,Jd,Je,Jf,Jg,Jh,Ji,Jj,Jk,Jl,Jm,Jn,Jo,Jp,Jq,Jr,Js,Jt,Ju,Jv,Jw,Jx,Jy,Jz,J0,J1,J2,J3,J4,J5,J6,J7,J8,J9,Ka,Kb,Kc,Kd,Ke,Kf,Kg,Kh,Ki,Kj,Kk,Kl,Km,Kn,Ko,Kp,Kq,Kr,Ks,Kt,Ku,Kv,Kw,Kx,Ky,Kz,K0,K1,K2,K3,K4,K5,K6,K7,K8,K9,Ua,Ub,Uc,Ud,Ue,Uf,Ug,Uh,Ui,Uj,Uk,Ul,Um,Un,Uo,Up,Uq,Ur,Us,Ut,Uu,Uv,Uw,Ux,Uy,Uz,U0,U1,U2,U3,U4,U5,U6,U7,U8,U9,Va,Vb,Vc,Vd,Ve,Vf,Vg,Vh,Vi,Vj,Vk,Vl,Vm,Vn,Vo,Vp,Vq,Vr,Vs,Vt,Vu,Vv,Vw,Vx,Vy,Vz,V0,V1,V2,V3,V4,V5,V6,V7,V8,V9,Wa,Wb,Wc,Wd,We,Wf,Wg,Wh,Wi,Wj,Wk,Wl,Wm,Wn,Wo,Wp,Wq,Wr,Ws,Wt,Wu,Wv,Ww,Wx,Wy,Wz,W0,W1,W2,W3,W4,W5,W6,W7,W8,W9,Ha,Hb,Hc,Hd,He,Hf,Hg,Hh,Hi,Hj,Hk,Hl,Hm,Hn,Ho,Hp,Hq,Hr,Hs,Ht,Hu,Hv,Hw,Hx,Hy,Hz,H0,H1,H2,H3,H4,H5,H6,H7,H8,H9,Na,Nb,Nc,Nd,Ne,Nf,Ng,Nh,Ni,Nj,Nk,Nl,Nm,Nn,No,Np,Nq,Nr,Ns,Nt,Nu,Nv,Nw,Nx,Ny,Nz,N0,N1,N2,N3,N4,N5,N6,N7,N8,N9,Ba,Bb,Bc,Bd,Be,Bf,Bg,Bh,Bi,Bj,Bk,Bl,Bm,Bn,Bo,Bp,Bq,Br,Bs,Bt,Bu,Bv,Bw,Bx,By,Bz,BA,BB,BC,q28R0.eq_1,q28R1.eq_1,q28R2.eq_1,q28R3.eq_1,q28R4.eq_1,q28R5.eq_1,q28R7.eq_1,q28R8.eq_1,q28R9.eq_1,q28R6.eq_1,q28R10.eq_1,c_law15_great.eq_1,c_law15_great_L0.eq_1,q1,hw,a1,w1,h2,gA_len,cells_len])
theorem great_P : aP G FT n_law15_great [.data b 1 (gA g) f] = some (.bool (greatB g)) := by
  unfold aP greatB
  rw [run_law15_great]
  by_cases h1 : 210 < g.length
  · have h1' : (210 : Int) < g.length := by omega
    have h1d : decide (210 < g.length) = true := decide_eq_true h1
    (sym => simp [Qa,Qb,Qc,Qd,Qe,Qf,Qg,Qh,Qi,Qj,Qk,Ql,Qm,Qn,Qo,Qp,Qq,Qr,Qs,Qt,Qu,Qv,Qw,Qx,Qy,Qz,Q0,Q1,Q2,Q3,Q4,Q5,Q6,Q7,Q8,Q9,Xa,Xb,Xc,Xd,Xe,Xf,Xg,Xh,Xi,Xj,Xk,Xl,Xm,Xn,Xo,Xp,Xq,Xr,Xs,Xt,Xu,Xv,Xw,Xx,Xy,Xz,X0,X1,X2,X3,X4,X5,X6,X7,X8,X9,Ya,Yb,Yc,Yd,Ye,Yf,Yg,Yh,Yi,Yj,Yk,Yl,Ym,Yn,Yo,Yp,Yq,Yr,Ys,Yt,Yu,Yv,Yw,Yx,Yy,Yz,Y0,Y1,Y2,Y3,Y4,Y5,Y6,Y7,Y8,Y9,Za,Zb,Zc,Zd,Ze,Zf,Zg,Zh,Zi,Zj,Zk,Zl,Zm,Zn,Zo,Zp,Zq,Zr,Zs,Zt,Zu,Zv,Zw,Zx,Zy,Zz,Z0,Z1,Z2,Z3,Z4,Z5,Z6,Z7,Z8,Z9,Ja,Jb,Jc,Jd,Je,Jf,Jg,Jh,Ji,Jj,Jk,Jl,Jm,Jn,Jo,Jp,Jq,Jr,Js,Jt,Ju,Jv,Jw,Jx,Jy,Jz,J0,J1,J2,J3,J4,J5,J6,J7,J8,J9,Ka,Kb,Kc,Kd,Ke,Kf,Kg,Kh,Ki,Kj,Kk,Kl,Km,Kn,Ko,Kp,Kq,Kr,Ks,Kt,Ku,Kv,Kw,Kx,Ky,Kz,K0,K1,K2,K3,K4,K5,K6,K7,K8,K9,Ua,Ub,Uc,Ud,Ue,Uf,Ug,Uh,Ui,Uj,Uk,Ul,Um,Un,Uo,Up,Uq,Ur,Us,Ut,Uu,Uv,Uw,Ux,Uy,Uz,U0,U1,U2,U3,U4,U5,U6,U7,U8,U9,Va,Vb,Vc,Vd,Ve,Vf,Vg,Vh,Vi,Vj,Vk,Vl,Vm,Vn,Vo,Vp,Vq,Vr,Vs,Vt,Vu,Vv,Vw,Vx,Vy,Vz,V0,V1,V2,V3,V4,V5,V6,V7,V8,V9,Wa,Wb,Wc,Wd,We,Wf,Wg,Wh,Wi,Wj,Wk,Wl,Wm,Wn,Wo,Wp,Wq,Wr,Ws,Wt,Wu,Wv,Ww,Wx,Wy,Wz,W0,W1,W2,W3,W4,W5,W6,W7,W8,W9,Ha,Hb,Hc,Hd,He,Hf,Hg,Hh,Hi,Hj,Hk,Hl,Hm,Hn,Ho,Hp,Hq,Hr,Hs,Ht,Hu,Hv,Hw,Hx,Hy,Hz,H0,H1,H2,H3,H4,H5,H6,H7,H8,H9,Na,Nb,Nc,Nd,Ne,Nf,Ng,Nh,Ni,Nj,Nk,Nl,Nm,Nn,No,Np,Nq,Nr,Ns,Nt,Nu,Nv,Nw,Nx,Ny,Nz,N0,N1,N2,N3,N4,N5,N6,N7,N8,N9,Ba,Bb,Bc,Bd,Be,Bf,Bg,Bh,Bi,Bj,Bk,Bl,Bm,Bn,Bo,Bp,Bq,Br,Bs,Bt,Bu,Bv,Bw,Bx,By,Bz,BA,BB,BC,q28R0.eq_1,q28R1.eq_1,q28R2.eq_1,q28R3.eq_1,q28R4.eq_1,q28R5.eq_1,q28R7.eq_1,q28R8.eq_1,q28R9.eq_1,q28R6.eq_1,q28R10.eq_1,c_law15_great.eq_1,gA_len,h1',h1d])
  have h1' : ¬ (210 : Int) < g.length := by omega
  have h1d : decide (210 < g.length) = false := decide_eq_false h1
  have key := great_loop G g b f (by omega) g.length 0 (by omega) (by simp [sumL])
  have z0 : sumL (g.take 0) = 0 := rfl
  simp only [z0, Int.natCast_zero] at key
  by_cases h2 : sumL g ≤ 2000
  · obtain ⟨n, key⟩ := key.1 h2
    have h2d : decide (2000 < sumL g) = false := decide_eq_false (by omega)
    obtain ⟨e, h⟩ := n
    (sym => simp [Qa,Qb,Qc,Qd,Qe,Qf,Qg,Qh,Qi,Qj,Qk,Ql,Qm,Qn,Qo,Qp,Qq,Qr,Qs,Qt,Qu,Qv,Qw,Qx,Qy,Qz,Q0,Q1,Q2,Q3,Q4,Q5,Q6,Q7,Q8,Q9,Xa,Xb,Xc,Xd,Xe,Xf,Xg,Xh,Xi,Xj,Xk,Xl,Xm,Xn,Xo,Xp,Xq,Xr,Xs,Xt,Xu,Xv,Xw,Xx,Xy,Xz,X0,X1,X2,X3,X4,X5,X6,X7,X8,X9,Ya,Yb,Yc,Yd,Ye,Yf,Yg,Yh,Yi,Yj,Yk,Yl,Ym,Yn,Yo,Yp,Yq,Yr,Ys,Yt,Yu,Yv,Yw,Yx,Yy,Yz,Y0,Y1,Y2,Y3,Y4,Y5,Y6,Y7,Y8,Y9,Za,Zb,Zc,Zd,Ze,Zf,Zg,Zh,Zi,Zj,Zk,Zl,Zm,Zn,Zo,Zp,Zq,Zr,Zs,Zt,Zu,Zv,Zw,Zx,Zy,Zz,Z0,Z1,Z2,Z3,Z4,Z5,Z6,Z7,Z8,Z9,Ja,Jb,Jc,Jd,Je,Jf,Jg,Jh,Ji,Jj,Jk,Jl,Jm,Jn,Jo,Jp,Jq,Jr,Js,Jt,Ju,Jv,Jw,Jx,Jy,Jz,J0,J1,J2,J3,J4,J5,J6,J7,J8,J9,Ka,Kb,Kc,Kd,Ke,Kf,Kg,Kh,Ki,Kj,Kk,Kl,Km,Kn,Ko,Kp,Kq,Kr,Ks,Kt,Ku,Kv,Kw,Kx,Ky,Kz,K0,K1,K2,K3,K4,K5,K6,K7,K8,K9,Ua,Ub,Uc,Ud,Ue,Uf,Ug,Uh,Ui,Uj,Uk,Ul,Um,Un,Uo,Up,Uq,Ur,Us,Ut,Uu,Uv,Uw,Ux,Uy,Uz,U0,U1,U2,U3,U4,U5,U6,U7,U8,U9,Va,Vb,Vc,Vd,Ve,Vf,Vg,Vh,Vi,Vj,Vk,Vl,Vm,Vn,Vo,Vp,Vq,Vr,Vs,Vt,Vu,Vv,Vw,Vx,Vy,Vz,V0,V1,V2,V3,V4,V5,V6,V7,V8,V9,Wa,Wb,Wc,Wd,We,Wf,Wg,Wh,Wi,Wj,Wk,Wl,Wm,Wn,Wo,Wp,Wq,Wr,Ws,Wt,Wu,Wv,Ww,Wx,Wy,Wz,W0,W1,W2,W3,W4,W5,W6,W7,W8,W9,Ha,Hb,Hc,Hd,He,Hf,Hg,Hh,Hi,Hj,Hk,Hl,Hm,Hn,Ho,Hp,Hq,Hr,Hs,Ht,Hu,Hv,Hw,Hx,Hy,Hz,H0,H1,H2,H3,H4,H5,H6,H7,H8,H9,Na,Nb,Nc,Nd,Ne,Nf,Ng,Nh,Ni,Nj,Nk,Nl,Nm,Nn,No,Np,Nq,Nr,Ns,Nt,Nu,Nv,Nw,Nx,Ny,Nz,N0,N1,N2,N3,N4,N5,N6,N7,N8,N9,Ba,Bb,Bc,Bd,Be,Bf,Bg,Bh,Bi,Bj,Bk,Bl,Bm,Bn,Bo,Bp,Bq,Br,Bs,Bt,Bu,Bv,Bw,Bx,By,Bz,BA,BB,BC,q28R0.eq_1,q28R1.eq_1,q28R2.eq_1,q28R3.eq_1,q28R4.eq_1,q28R5.eq_1,q28R7.eq_1,q28R8.eq_1,q28R9.eq_1,q28R6.eq_1,q28R10.eq_1,c_law15_great.eq_1,gA_len,h1',h1d,key,h2d])
  · have key := key.2 h2
    have h2d : decide (2000 < sumL g) = true := decide_eq_true (by omega)
    (sym => simp [Qa,Qb,Qc,Qd,Qe,Qf,Qg,Qh,Qi,Qj,Qk,Ql,Qm,Qn,Qo,Qp,Qq,Qr,Qs,Qt,Qu,Qv,Qw,Qx,Qy,Qz,Q0,Q1,Q2,Q3,Q4,Q5,Q6,Q7,Q8,Q9,Xa,Xb,Xc,Xd,Xe,Xf,Xg,Xh,Xi,Xj,Xk,Xl,Xm,Xn,Xo,Xp,Xq,Xr,Xs,Xt,Xu,Xv,Xw,Xx,Xy,Xz,X0,X1,X2,X3,X4,X5,X6,X7,X8,X9,Ya,Yb,Yc,Yd,Ye,Yf,Yg,Yh,Yi,Yj,Yk,Yl,Ym,Yn,Yo,Yp,Yq,Yr,Ys,Yt,Yu,Yv,Yw,Yx,Yy,Yz,Y0,Y1,Y2,Y3,Y4,Y5,Y6,Y7,Y8,Y9,Za,Zb,Zc,Zd,Ze,Zf,Zg,Zh,Zi,Zj,Zk,Zl,Zm,Zn,Zo,Zp,Zq,Zr,Zs,Zt,Zu,Zv,Zw,Zx,Zy,Zz,Z0,Z1,Z2,Z3,Z4,Z5,Z6,Z7,Z8,Z9,Ja,Jb,Jc,Jd,Je,Jf,Jg,Jh,Ji,Jj,Jk,Jl,Jm,Jn,Jo,Jp,Jq,Jr,Js,Jt,Ju,Jv,Jw,Jx,Jy,Jz,J0,J1,J2,J3,J4,J5,J6,J7,J8,J9,Ka,Kb,Kc,Kd,Ke,Kf,Kg,Kh,Ki,Kj,Kk,Kl,Km,Kn,Ko,Kp,Kq,Kr,Ks,Kt,Ku,Kv,Kw,Kx,Ky,Kz,K0,K1,K2,K3,K4,K5,K6,K7,K8,K9,Ua,Ub,Uc,Ud,Ue,Uf,Ug,Uh,Ui,Uj,Uk,Ul,Um,Un,Uo,Up,Uq,Ur,Us,Ut,Uu,Uv,Uw,Ux,Uy,Uz,U0,U1,U2,U3,U4,U5,U6,U7,U8,U9,Va,Vb,Vc,Vd,Ve,Vf,Vg,Vh,Vi,Vj,Vk,Vl,Vm,Vn,Vo,Vp,Vq,Vr,Vs,Vt,Vu,Vv,Vw,Vx,Vy,Vz,V0,V1,V2,V3,V4,V5,V6,V7,V8,V9,Wa,Wb,Wc,Wd,We,Wf,Wg,Wh,Wi,Wj,Wk,Wl,Wm,Wn,Wo,Wp,Wq,Wr,Ws,Wt,Wu,Wv,Ww,Wx,Wy,Wz,W0,W1,W2,W3,W4,W5,W6,W7,W8,W9,Ha,Hb,Hc,Hd,He,Hf,Hg,Hh,Hi,Hj,Hk,Hl,Hm,Hn,Ho,Hp,Hq,Hr,Hs,Ht,Hu,Hv,Hw,Hx,Hy,Hz,H0,H1,H2,H3,H4,H5,H6,H7,H8,H9,Na,Nb,Nc,Nd,Ne,Nf,Ng,Nh,Ni,Nj,Nk,Nl,Nm,Nn,No,Np,Nq,Nr,Ns,Nt,Nu,Nv,Nw,Nx,Ny,Nz,N0,N1,N2,N3,N4,N5,N6,N7,N8,N9,Ba,Bb,Bc,Bd,Be,Bf,Bg,Bh,Bi,Bj,Bk,Bl,Bm,Bn,Bo,Bp,Bq,Br,Bs,Bt,Bu,Bv,Bw,Bx,By,Bz,BA,BB,BC,q28R0.eq_1,q28R1.eq_1,q28R2.eq_1,q28R3.eq_1,q28R4.eq_1,q28R5.eq_1,q28R7.eq_1,q28R8.eq_1,q28R9.eq_1,q28R6.eq_1,q28R10.eq_1,c_law15_great.eq_1,gA_len,h1',h1d,key,h2d])
theorem mem_sum (g : List Rw) {i : Nat} (h : i < g.length) : (rat g i).1.length ≤ sumL g := by
  have := sum_le g (i + 1)
  rw [sum_take g h] at this; omega
theorem great_lo (h : greatB g = false) : Lo g ∧ g.length ≤ 210 ∧ sumL g ≤ 2000 := by
  unfold greatB at h
  simp only [Bool.or_eq_false_iff, decide_eq_false_iff_not] at h
  exact ⟨⟨by omega, fun i hi => by have := mem_sum g hi; omega⟩, by omega, by omega⟩
end
end Go.Proofs.YtmmkjbcklghopaaDoor
