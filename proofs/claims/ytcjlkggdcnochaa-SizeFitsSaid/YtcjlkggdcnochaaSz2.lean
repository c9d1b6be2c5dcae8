/- What size.Least comes to. Conditions: none. -/
import Derived.Test.YtcjlkggdcnochaaSz1
set_option linter.unusedVariables false
set_option linter.unusedSimpArgs false
set_option linter.unusedSectionVars false
set_option maxRecDepth 20000
set_option maxHeartbeats 1000000
namespace Go.Proofs.Ytcjlkggdcnochaa
open Go
variable (G : Nat → Option (List AV))
/-- What one member's window does. -/
def stepW (w : Nat → Int × Int) (s : Bool × Int × Int) (id : Int) : Bool × Int × Int :=
  if memB id = true ∧ ¬ ((w id.toNat).1 = 0 ∧ (w id.toNat).2 = 0) then (true, min s.2.1 (w id.toNat).1, min s.2.2 (w id.toNat).2) else s
def lstW (w : Nat → Int × Int) (ids : List Int) : Bool × Int × Int := ids.foldl (stepW w) (false, 24, 40)
def rowsL (w : Nat → Int × Int) (l0 l1 r c : Int) : List ARow := [⟨18, 0, true, [cellsW w]⟩, ⟨2, 0, true, [[.int .i64 l0, .int .i64 l1]]⟩, ⟨2, 0, true, [[.int .i64 0, .int .i64 0]]⟩, ⟨2, 0, true, [[.int .i64 r, .int .i64 c]]⟩]
theorem least_loop (w : Nat → Int × Int) (l0 l1 : Int) (b f : Bool) (l : List Int) (hl : l.length < 9223372036854775807) : ∀ (m i : Nat) (s : Bool × Int × Int), i + m = l.length →
    aE G FT 0 lp_size_Least_0 ⟨[(3, .ptr 0 0 0 0), (5, .ptr 1 0 0 0), (6, .ptr 2 0 0 0), (7, .ptr 3 0 0 0), (8, .bool s.1), (17, .data b 1 (ints l) f), (18, .int .i64 l.length), (19, .int .i64 i)], rowsL w l0 l1 s.2.1 s.2.2⟩ =
      some (.exit 0, ⟨[(3, .ptr 0 0 0 0), (5, .ptr 1 0 0 0), (6, .ptr 2 0 0 0), (7, .ptr 3 0 0 0), (8, .bool ((l.drop i).foldl (stepW w) s).1), (17, .data b 1 (ints l) f), (18, .int .i64 l.length), (19, .int .i64 l.length), (20, .bool false)],
        rowsL w l0 l1 ((l.drop i).foldl (stepW w) s).2.1 ((l.drop i).foldl (stepW w) s).2.2⟩) := by
  intro m
  induction m with
  | zero =>
    intro i s hi
    rw [lp_size_Least_0, y_loop]
    have e : l.drop i = [] := List.drop_eq_nil_of_le (by omega)
    have ei : i = l.length := by omega
    subst ei
    have e0 : decide ((l.length : Int) < l.length) = false := by simp
    rw [e, List.foldl_nil]
    obtain ⟨t, r, c⟩ := s
    unfold rowsL
    (sym => simp [Qa,Qb,Qc,Qd,Qe,Qf,Qg,Qh,Qi,Qj,Qk,Ql,Qm,Qn,Qo,Qp,Qq,Qr,Qs,Qt,Qu,Qv,Qw,Qx,Qy,Qz,Q0,Q1,Q2,Q3,Q4,Q5,Q6,Q7,Q8,Q9,Xa,Xb,Xc,Xd,Xe,Xf,Xg,Xh,Xi,Xj,Xk,Xl,Xm,Xn,Xo,Xp,Xq,Xr,Xs,Xt,Xu,Xv,Xw,Xx,Xy,Xz,X0,X1,X2,X3,X4,X5,X6,X7,X8,X9,Ya,Yb,Yc,Yd,Ye,Yf,Yg,Yh,Yi,Yj,Yk,Yl,Ym,Yn,Yo,Yp,Yq,Yr,Ys,Yt,Yu,Yv,Yw,Yx,Yy,Yz,Y0,Y1,Y2,Y3,Y4,Y5,Y6,Y7,Y8,Y9,Za,Zb,Zc,Zd,Ze,Zf,Zg,Zh,Zi,Zj,Zk,Zl,Zm,Zn,Zo,Zp,Zq,Zr,Zs,Zt,Zu,Zv,Zw,Zx,Zy,Zz,Z0,Z1,Z2,Z3,Z4,Z5,Z6,Z7,Z8,Z9,Ja,Jb,Jc,Jd,Je,Jf,Jg,Jh,Ji,Jj,Jk,Jl,Jm,Jn,Jo,Jp,Jq,Jr,Js,Jt,Ju,Jv,Jw,Jx,Jy,Jz,J0,J1,J2,J3,J4,J5,J6,J7,J8,J9,Ka,Kb,Kc,Kd,Ke,Kf,Kg,Kh,Ki,Kj,Kk,Kl,Km,Kn,Ko,Kp,Kq,Kr,Ks,Kt,Ku,Kv,Kw,Kx,Ky,Kz,K0,K1,K2,K3,K4,K5,K6,K7,K8,K9,Ua,Ub,Uc,Ud,Ue,Uf,Ug,Uh,Ui,Uj,Uk,Ul,Um,Un,Uo,Up,Uq,Ur,Us,Ut,Uu,Uv,Uw,Ux,Uy,Uz,U0,U1,U2,U3,U4,U5,U6,U7,U8,U9,Va,Vb,Vc,Vd,Ve,Vf,Vg,Vh,Vi,Vj,Vk,Vl,Vm,Vn,Vo,Vp,Vq,Vr,Vs,Vt,Vu,Vv,Vw,Vx,Vy,Vz,V0,V1,V2,V3,V4,V5,V6,V7,V8,V9,Wa,Wb,Wc,Wd,We,Wf,Wg,Wh,Wi,Wj,Wk,Wl,Wm,Wn,Wo,Wp,Wq,Wr,Ws,Wt,Wu,Wv,Ww,Wx,Wy,Wz,W0,W1,W2,W3,W4,W5,W6,W7,W8,W9,Ha,Hb,Hc,Hd,He,Hf,Hg,Hh,Hi,Hj,Hk,Hl,Hm,Hn,Ho,Hp,Hq,Hr,Hs,Ht,Hu,Hv,Hw,Hx,Hy,Hz,H0,H1,H2,H3,H4,H5,H6,H7,H8,H9,Na,Nb,Nc,Nd,Ne,Nf,Ng,Nh,Ni,Nj,Nk,Nl,Nm,Nn,No,Np,Nq,Nr,Ns,Nt,Nu,Nv,Nw,Nx,Ny,Nz,N0,N1,N2,N3,N4,N5,N6,N7,N8,N9,Ba,Bb,Bc,Bd,Be,Bf,Bg,Bh,Bi,Bj,Bk,Bl,Bm,Bn,Bo,Bp,Bq,Br,Bs,Bt,Bu,Bv,Bw,Bx,By,Bz,BA,BB,BC,BD,BE,BF,BG,BH,BI,BJ,BK,BL,BM,BN,BO,BP,BQ,BR,BS,BT,BU,BV,BW,BX,BY,BZ,Ca,Cb,q2R0.eq_1,q2R1.eq_1,q2R2.eq_1,q2R3.eq_1,q2R4.eq_1,q2R5.eq_1,q2R6.eq_1,q2R7.eq_1,q2R8.eq_1,q2R9.eq_1,q2R10.eq_1,q2R11.eq_1,q2R12.eq_1,q2R13.eq_1,q2R14.eq_1,q2R15.eq_1,q2R16.eq_1,q2R17.eq_1,c_size_Least.eq_1,c_size_Least_L0.eq_1,e0])
  | succ m ih =>
    intro i s hi
    have hlt : i < l.length := by omega
    have hlt' : (i : Int) < l.length := by omega
    have e : l.drop i = l[i] :: l.drop (i + 1) := List.drop_eq_getElem_cons hlt
    have hw := wrap_nat (n := i) (by omega)
    have hg := ints_at hlt
    rw [e, List.foldl_cons]
    have hN := member_P G
    generalize l[i] = x at hg
    have ih := ih (i + 1) (stepW w s x) (by omega)
    rw [← ih]
    rw [lp_size_Least_0, y_loop]
    obtain ⟨t, r, c⟩ := s
    have cl := cW_len w
    have cs := cW_st w
    have hw1 : IntKind.i64.wrap 1 = 1 := by decide
    have hw2 : IntKind.i64.wrap 2 = 2 := by decide
    by_cases hm : memB x = true
    · obtain ⟨h1, h8⟩ := (memB_iff x).1 hm
      have h0 : 0 ≤ x := by omega
      have h9 : x < 9 := by omega
      have hn9 : x.toNat < 9 := by omega
      have hc := cW_cut w hn9
      have hc0 := cW_0 w hn9
      have hc1 := cW_1 w hn9
      have q1 : x.toNat * 2 + 2 ≤ 18 := by omega
      have q2 : x.toNat * 2 < 18 := by omega
      have q3 : x.toNat * 2 + 1 < 18 := by omega
      by_cases ha : (w x.toNat).1 = 0
      · by_cases hb : (w x.toNat).2 = 0
        · have hst : stepW w (t, r, c) x = (t, r, c) := by simp [stepW, ha, hb]
          rw [hst]
          unfold rowsL
          (sym => simp [Qa,Qb,Qc,Qd,Qe,Qf,Qg,Qh,Qi,Qj,Qk,Ql,Qm,Qn,Qo,Qp,Qq,Qr,Qs,Qt,Qu,Qv,Qw,Qx,Qy,Qz,Q0,Q1,Q2,Q3,Q4,Q5,Q6,Q7,Q8,Q9,Xa,Xb,Xc,Xd,Xe,Xf,Xg,Xh,Xi,Xj,Xk,Xl,Xm,Xn,Xo,Xp,Xq,Xr,Xs,Xt,Xu,Xv,Xw,Xx,Xy,Xz,X0,X1,X2,X3,X4,X5,X6,X7,X8,X9,Ya,Yb,Yc,Yd,Ye,Yf,Yg,Yh,Yi,Yj,Yk,Yl,Ym,Yn,Yo,Yp,Yq,Yr,Ys,Yt,Yu,Yv,Yw,Yx,Yy,Yz,Y0,Y1,Y2,Y3,Y4,Y5,Y6,Y7,Y8,Y9,Za,Zb,Zc,Zd,Ze,Zf,Zg,Zh,Zi,Zj,Zk,Zl,Zm,Zn,Zo,Zp,Zq,Zr,Zs,Zt,Zu,Zv,Zw,Zx,Zy,Zz,Z0,Z1,Z2,Z3,Z4,Z5,Z6,Z7,Z8,Z9,Ja,Jb,Jc,Jd,Je,Jf,Jg,Jh,Ji,Jj,Jk,Jl,Jm,Jn,Jo,Jp,Jq,Jr,Js,Jt,Ju,Jv,Jw,Jx,Jy,Jz,J0,J1,J2,J3,J4,J5,J6,J7,J8,J9,Ka,Kb,Kc,Kd,Ke,Kf,Kg,Kh,Ki,Kj,Kk,Kl,Km,Kn,Ko,Kp,Kq,Kr,Ks,Kt,Ku,Kv,Kw,Kx,Ky,Kz,K0,K1,K2,K3,K4,K5,K6,K7,K8,K9,Ua,Ub,Uc,Ud,Ue,Uf,Ug,Uh,Ui,Uj,Uk,Ul,Um,Un,Uo,Up,Uq,Ur,Us,Ut,Uu,Uv,Uw,Ux,Uy,Uz,U0,U1,U2,U3,U4,U5,U6,U7,U8,U9,Va,Vb,Vc,Vd,Ve,Vf,Vg,Vh,Vi,Vj,Vk,Vl,Vm,Vn,Vo,Vp,Vq,Vr,Vs,Vt,Vu,Vv,Vw,Vx,Vy,Vz,V0,V1,V2,V3,V4,V5,V6,V7,V8,V9,Wa,Wb,Wc,Wd,We,Wf,Wg,Wh,Wi,Wj,Wk,Wl,Wm,Wn,Wo,Wp,Wq,Wr,Ws,Wt,Wu,Wv,Ww,Wx,Wy,Wz,W0,W1,W2,W3,W4,W5,W6,W7,W8,W9,Ha,Hb,Hc,Hd,He,Hf,Hg,Hh,Hi,Hj,Hk,Hl,Hm,Hn,Ho,Hp,Hq,Hr,Hs,Ht,Hu,Hv,Hw,Hx,Hy,Hz,H0,H1,H2,H3,H4,H5,H6,H7,H8,H9,Na,Nb,Nc,Nd,Ne,Nf,Ng,Nh,Ni,Nj,Nk,Nl,Nm,Nn,No,Np,Nq,Nr,Ns,Nt,Nu,Nv,Nw,Nx,Ny,Nz,N0,N1,N2,N3,N4,N5,N6,N7,N8,N9,Ba,Bb,Bc,Bd,Be,Bf,Bg,Bh,Bi,Bj,Bk,Bl,Bm,Bn,Bo,Bp,Bq,Br,Bs,Bt,Bu,Bv,Bw,Bx,By,Bz,BA,BB,BC,BD,BE,BF,BG,BH,BI,BJ,BK,BL,BM,BN,BO,BP,BQ,BR,BS,BT,BU,BV,BW,BX,BY,BZ,Ca,Cb,q2R0.eq_1,q2R1.eq_1,q2R2.eq_1,q2R3.eq_1,q2R4.eq_1,q2R5.eq_1,q2R6.eq_1,q2R7.eq_1,q2R8.eq_1,q2R9.eq_1,q2R10.eq_1,q2R11.eq_1,q2R12.eq_1,q2R13.eq_1,q2R14.eq_1,q2R15.eq_1,q2R16.eq_1,q2R17.eq_1,c_size_Least.eq_1,c_size_Least_L0.eq_1,hlt',hg,hN,hm,h0,h9,hc,cl,cs,q1,ha,hb,hw])
        · have hst : stepW w (t, r, c) x = (true, min r (w x.toNat).1, min c (w x.toNat).2) := by simp [stepW, hm, hb]
          rw [hst]
          unfold rowsL
          (sym => simp [Qa,Qb,Qc,Qd,Qe,Qf,Qg,Qh,Qi,Qj,Qk,Ql,Qm,Qn,Qo,Qp,Qq,Qr,Qs,Qt,Qu,Qv,Qw,Qx,Qy,Qz,Q0,Q1,Q2,Q3,Q4,Q5,Q6,Q7,Q8,Q9,Xa,Xb,Xc,Xd,Xe,Xf,Xg,Xh,Xi,Xj,Xk,Xl,Xm,Xn,Xo,Xp,Xq,Xr,Xs,Xt,Xu,Xv,Xw,Xx,Xy,Xz,X0,X1,X2,X3,X4,X5,X6,X7,X8,X9,Ya,Yb,Yc,Yd,Ye,Yf,Yg,Yh,Yi,Yj,Yk,Yl,Ym,Yn,Yo,Yp,Yq,Yr,Ys,Yt,Yu,Yv,Yw,Yx,Yy,Yz,Y0,Y1,Y2,Y3,Y4,Y5,Y6,Y7,Y8,Y9,Za,Zb,Zc,Zd,Ze,Zf,Zg,Zh,Zi,Zj,Zk,Zl,Zm,Zn,Zo,Zp,Zq,Zr,Zs,Zt,Zu,Zv,Zw,Zx,Zy,Zz,Z0,Z1,Z2,Z3,Z4,Z5,Z6,Z7,Z8,Z9,Ja,Jb,Jc,Jd,Je,Jf,Jg,Jh,Ji,Jj,Jk,Jl,Jm,Jn,Jo,Jp,Jq,Jr,Js,Jt,Ju,Jv,Jw,Jx,Jy,Jz,J0,J1,J2,J3,J4,J5,J6,J7,J8,J9,Ka,Kb,Kc,Kd,Ke,Kf,Kg,Kh,Ki,Kj,Kk,Kl,Km,Kn,Ko,Kp,Kq,Kr,Ks,Kt,Ku,Kv,Kw,Kx,Ky,Kz,K0,K1,K2,K3,K4,K5,K6,K7,K8,K9,Ua,Ub,Uc,Ud,Ue,Uf,Ug,Uh,Ui,Uj,Uk,Ul,Um,Un,Uo,Up,Uq,Ur,Us,Ut,Uu,Uv,Uw,Ux,Uy,Uz,U0,U1,U2,U3,U4,U5,U6,U7,U8,U9,Va,Vb,Vc,Vd,Ve,Vf,Vg,Vh,Vi,Vj,Vk,Vl,Vm,Vn,Vo,Vp,Vq,Vr,Vs,Vt,Vu,Vv,Vw,Vx,Vy,Vz,V0,V1,V2,V3,V4,V5,V6,V7,V8,V9,Wa,Wb,Wc,Wd,We,Wf,Wg,Wh,Wi,Wj,Wk,Wl,Wm,Wn,Wo,Wp,Wq,Wr,Ws,Wt,Wu,Wv,Ww,Wx,Wy,Wz,W0,W1,W2,W3,W4,W5,W6,W7,W8,W9,Ha,Hb,Hc,Hd,He,Hf,Hg,Hh,Hi,Hj,Hk,Hl,Hm,Hn,Ho,Hp,Hq,Hr,Hs,Ht,Hu,Hv,Hw,Hx,Hy,Hz,H0,H1,H2,H3,H4,H5,H6,H7,H8,H9,Na,Nb,Nc,Nd,Ne,Nf,Ng,Nh,Ni,Nj,Nk,Nl,Nm,Nn,No,Np,Nq,Nr,Ns,Nt,Nu,Nv,Nw,Nx,Ny,Nz,N0,N1,N2,N3,N4,N5,N6,N7,N8,N9,Ba,Bb,Bc,Bd,Be,Bf,Bg,Bh,Bi,Bj,Bk,Bl,Bm,Bn,Bo,Bp,Bq,Br,Bs,Bt,Bu,Bv,Bw,Bx,By,Bz,BA,BB,BC,BD,BE,BF,BG,BH,BI,BJ,BK,BL,BM,BN,BO,BP,BQ,BR,BS,BT,BU,BV,BW,BX,BY,BZ,Ca,Cb,q2R0.eq_1,q2R1.eq_1,q2R2.eq_1,q2R3.eq_1,q2R4.eq_1,q2R5.eq_1,q2R6.eq_1,q2R7.eq_1,q2R8.eq_1,q2R9.eq_1,q2R10.eq_1,q2R11.eq_1,q2R12.eq_1,q2R13.eq_1,q2R14.eq_1,q2R15.eq_1,q2R16.eq_1,q2R17.eq_1,c_size_Least.eq_1,c_size_Least_L0.eq_1,c_size_Least_L1.eq_1,hlt',hg,hN,hm,h0,h9,hc,hc0,hc1,cl,cs,q1,q2,q3,ha,hb,hw,lp_size_Least_1.eq_1,y_loop,hw1,hw2])
      · have hst : stepW w (t, r, c) x = (true, min r (w x.toNat).1, min c (w x.toNat).2) := by simp [stepW, hm, ha]
        rw [hst]
        unfold rowsL
        (sym => simp [Qa,Qb,Qc,Qd,Qe,Qf,Qg,Qh,Qi,Qj,Qk,Ql,Qm,Qn,Qo,Qp,Qq,Qr,Qs,Qt,Qu,Qv,Qw,Qx,Qy,Qz,Q0,Q1,Q2,Q3,Q4,Q5,Q6,Q7,Q8,Q9,Xa,Xb,Xc,Xd,Xe,Xf,Xg,Xh,Xi,Xj,Xk,Xl,Xm,Xn,Xo,Xp,Xq,Xr,Xs,Xt,Xu,Xv,Xw,Xx,Xy,Xz,X0,X1,X2,X3,X4,X5,X6,X7,X8,X9,Ya,Yb,Yc,Yd,Ye,Yf,Yg,Yh,Yi,Yj,Yk,Yl,Ym,Yn,Yo,Yp,Yq,Yr,Ys,Yt,Yu,Yv,Yw,Yx,Yy,Yz,Y0,Y1,Y2,Y3,Y4,Y5,Y6,Y7,Y8,Y9,Za,Zb,Zc,Zd,Ze,Zf,Zg,Zh,Zi,Zj,Zk,Zl,Zm,Zn,Zo,Zp,Zq,Zr,Zs,Zt,Zu,Zv,Zw,Zx,Zy,Zz,Z0,Z1,Z2,Z3,Z4,Z5,Z6,Z7,Z8,Z9,Ja,Jb,Jc,Jd,Je,Jf,Jg,Jh,Ji,Jj,Jk,Jl,Jm,Jn,Jo,Jp,Jq,Jr,Js,Jt,Ju,Jv,Jw,Jx,Jy,Jz,J0,J1,J2,J3,J4,J5,J6,J7,J8,J9,Ka,Kb,Kc,Kd,Ke,Kf,Kg,Kh,Ki,Kj,Kk,Kl,Km,Kn,Ko,Kp,Kq,Kr,Ks,Kt,Ku,Kv,Kw,Kx,Ky,Kz,K0,K1,K2,K3,K4,K5,K6,K7,K8,K9,Ua,Ub,Uc,Ud,Ue,Uf,Ug,Uh,Ui,Uj,Uk,Ul,Um,Un,Uo,Up,Uq,Ur,Us,Ut,Uu,Uv,Uw,Ux,Uy,Uz,U0,U1,U2,U3,U4,U5,U6,U7,U8,U9,Va,Vb,Vc,Vd,Ve,Vf,Vg,Vh,Vi,Vj,Vk,Vl,Vm,Vn,Vo,Vp,Vq,Vr,Vs,Vt,Vu,Vv,Vw,Vx,Vy,Vz,V0,V1,V2,V3,V4,V5,V6,V7,V8,V9,Wa,Wb,Wc,Wd,We,Wf,Wg,Wh,Wi,Wj,Wk,Wl,Wm,Wn,Wo,Wp,Wq,Wr,Ws,Wt,Wu,Wv,Ww,Wx,Wy,Wz,W0,W1,W2,W3,W4,W5,W6,W7,W8,W9,Ha,Hb,Hc,Hd,He,Hf,Hg,Hh,Hi,Hj,Hk,Hl,Hm,Hn,Ho,Hp,Hq,Hr,Hs,Ht,Hu,Hv,Hw,Hx,Hy,Hz,H0,H1,H2,H3,H4,H5,H6,H7,H8,H9,Na,Nb,Nc,Nd,Ne,Nf,Ng,Nh,Ni,Nj,Nk,Nl,Nm,Nn,No,Np,Nq,Nr,Ns,Nt,Nu,Nv,Nw,Nx,Ny,Nz,N0,N1,N2,N3,N4,N5,N6,N7,N8,N9,Ba,Bb,Bc,Bd,Be,Bf,Bg,Bh,Bi,Bj,Bk,Bl,Bm,Bn,Bo,Bp,Bq,Br,Bs,Bt,Bu,Bv,Bw,Bx,By,Bz,BA,BB,BC,BD,BE,BF,BG,BH,BI,BJ,BK,BL,BM,BN,BO,BP,BQ,BR,BS,BT,BU,BV,BW,BX,BY,BZ,Ca,Cb,q2R0.eq_1,q2R1.eq_1,q2R2.eq_1,q2R3.eq_1,q2R4.eq_1,q2R5.eq_1,q2R6.eq_1,q2R7.eq_1,q2R8.eq_1,q2R9.eq_1,q2R10.eq_1,q2R11.eq_1,q2R12.eq_1,q2R13.eq_1,q2R14.eq_1,q2R15.eq_1,q2R16.eq_1,q2R17.eq_1,c_size_Least.eq_1,c_size_Least_L0.eq_1,c_size_Least_L1.eq_1,hlt',hg,hN,hm,h0,h9,hc,hc0,hc1,cl,cs,q1,q2,q3,ha,hw,lp_size_Least_1.eq_1,y_loop,hw1,hw2])
    · have hst : stepW w (t, r, c) x = (t, r, c) := by simp [stepW, hm]
      rw [hst]
      have hm' : memB x = false := by simpa using hm
      unfold rowsL
      (sym => simp [Qa,Qb,Qc,Qd,Qe,Qf,Qg,Qh,Qi,Qj,Qk,Ql,Qm,Qn,Qo,Qp,Qq,Qr,Qs,Qt,Qu,Qv,Qw,Qx,Qy,Qz,Q0,Q1,Q2,Q3,Q4,Q5,Q6,Q7,Q8,Q9,Xa,Xb,Xc,Xd,Xe,Xf,Xg,Xh,Xi,Xj,Xk,Xl,Xm,Xn,Xo,Xp,Xq,Xr,Xs,Xt,Xu,Xv,Xw,Xx,Xy,Xz,X0,X1,X2,X3,X4,X5,X6,X7,X8,X9,Ya,Yb,Yc,Yd,Ye,Yf,Yg,Yh,Yi,Yj,Yk,Yl,Ym,Yn,Yo,Yp,Yq,Yr,Ys,Yt,Yu,Yv,Yw,Yx,Yy,Yz,Y0,Y1,Y2,Y3,Y4,Y5,Y6,Y7,Y8,Y9,Za,Zb,Zc,Zd,Ze,Zf,Zg,Zh,Zi,Zj,Zk,Zl,Zm,Zn,Zo,Zp,Zq,Zr,Zs,Zt,Zu,Zv,Zw,Zx,Zy,Zz,Z0,Z1,Z2,Z3,Z4,Z5,Z6,Z7,Z8,Z9,Ja,Jb,Jc,Jd,Je,Jf,Jg,Jh,Ji,Jj,Jk,Jl,Jm,Jn,Jo,Jp,Jq,Jr,Js,Jt,Ju,Jv,Jw,Jx,Jy,Jz,J0,J1,J2,J3,J4,J5,J6,J7,J8,J9,Ka,Kb,Kc,Kd,Ke,Kf,Kg,Kh,Ki,Kj,Kk,Kl,Km,Kn,Ko,Kp,Kq,Kr,Ks,Kt,Ku,Kv,Kw,Kx,Ky,Kz,K0,K1,K2,K3,K4,K5,K6,K7,K8,K9,Ua,Ub,Uc,Ud,Ue,Uf,Ug,Uh,Ui,Uj,Uk,Ul,Um,Un,Uo,Up,Uq,Ur,Us,Ut,Uu,Uv,Uw,Ux,Uy,Uz,U0,U1,U2,U3,U4,U5,U6,U7,U8,U9,Va,Vb,Vc,Vd,Ve,Vf,Vg,Vh,Vi,Vj,Vk,Vl,Vm,Vn,Vo,Vp,Vq,Vr,Vs,Vt,Vu,Vv,Vw,Vx,Vy,Vz,V0,V1,V2,V3,V4,V5,V6,V7,V8,V9,Wa,Wb,Wc,Wd,We,Wf,Wg,Wh,Wi,Wj,Wk,Wl,Wm,Wn,Wo,Wp,Wq,Wr,Ws,Wt,Wu,Wv,Ww,Wx,Wy,Wz,W0,W1,W2,W3,W4,W5,W6,W7,W8,W9,Ha,Hb,Hc,Hd,He,Hf,Hg,Hh,Hi,Hj,Hk,Hl,Hm,Hn,Ho,Hp,Hq,Hr,Hs,Ht,Hu,Hv,Hw,Hx,Hy,Hz,H0,H1,H2,H3,H4,H5,H6,H7,H8,H9,Na,Nb,Nc,Nd,Ne,Nf,Ng,Nh,Ni,Nj,Nk,Nl,Nm,Nn,No,Np,Nq,Nr,Ns,Nt,Nu,Nv,Nw,Nx,Ny,Nz,N0,N1,N2,N3,N4,N5,N6,N7,N8,N9,Ba,Bb,Bc,Bd,Be,Bf,Bg,Bh,Bi,Bj,Bk,Bl,Bm,Bn,Bo,Bp,Bq,Br,Bs,Bt,Bu,Bv,Bw,Bx,By,Bz,BA,BB,BC,BD,BE,BF,BG,BH,BI,BJ,BK,BL,BM,BN,BO,BP,BQ,BR,BS,BT,BU,BV,BW,BX,BY,BZ,Ca,Cb,q2R0.eq_1,q2R1.eq_1,q2R2.eq_1,q2R3.eq_1,q2R4.eq_1,q2R5.eq_1,q2R6.eq_1,q2R7.eq_1,q2R8.eq_1,q2R9.eq_1,q2R10.eq_1,q2R11.eq_1,q2R12.eq_1,q2R13.eq_1,q2R14.eq_1,q2R15.eq_1,q2R16.eq_1,q2R17.eq_1,c_size_Least.eq_1,c_size_Least_L0.eq_1,hlt',hg,hN,hm',cl,cs,hw])
/-- The least window of members. -/
def leastW (w : Nat → Int × Int) (ids : List Int) (l0 l1 : Int) : Int × Int := if mayW w = true ∧ (lstW w ids).1 = true then (lstW w ids).2 else (l0, l1)
theorem least_P (w : Nat → Int × Int) (ids : List Int) (b f : Bool) (l0 l1 : Int) (hl : ids.length < 9223372036854775807) :
    aP G FT n_size_Least [.agg (cellsW w), .data b 1 (ints ids) f, .agg [.int .i64 l0, .int .i64 l1]] = some (.agg [.int .i64 (leastW w ids l0 l1).1, .int .i64 (leastW w ids l0 l1).2]) := by
  unfold aP leastW
  rw [run_size_Least]
  have hM := sMay_P G w
  have cl := cW_len w
  have cs := cW_st w
  have cv := cW_v w
  have ct : List.take 18 (cellsW w) = cellsW w := rfl
  by_cases hm : mayW w = true
  · have key := least_loop G w l0 l1 b f ids hl ids.length 0 (false, 24, 40) (by omega)
    have e0 : ((0 : Nat) : Int) = 0 := rfl
    rw [List.drop_zero, e0] at key
    unfold rowsL at key
    simp only [← show lstW w ids = ids.foldl (stepW w) (false, 24, 40) from rfl] at key
    have hln := ints_len ids
    cases ht : (lstW w ids).1 with
    | true =>
      rw [if_pos ⟨hm, rfl⟩]
      rw [ht] at key
      (sym => simp [Qa,Qb,Qc,Qd,Qe,Qf,Qg,Qh,Qi,Qj,Qk,Ql,Qm,Qn,Qo,Qp,Qq,Qr,Qs,Qt,Qu,Qv,Qw,Qx,Qy,Qz,Q0,Q1,Q2,Q3,Q4,Q5,Q6,Q7,Q8,Q9,Xa,Xb,Xc,Xd,Xe,Xf,Xg,Xh,Xi,Xj,Xk,Xl,Xm,Xn,Xo,Xp,Xq,Xr,Xs,Xt,Xu,Xv,Xw,Xx,Xy,Xz,X0,X1,X2,X3,X4,X5,X6,X7,X8,X9,Ya,Yb,Yc,Yd,Ye,Yf,Yg,Yh,Yi,Yj,Yk,Yl,Ym,Yn,Yo,Yp,Yq,Yr,Ys,Yt,Yu,Yv,Yw,Yx,Yy,Yz,Y0,Y1,Y2,Y3,Y4,Y5,Y6,Y7,Y8,Y9,Za,Zb,Zc,Zd,Ze,Zf,Zg,Zh,Zi,Zj,Zk,Zl,Zm,Zn,Zo,Zp,Zq,Zr,Zs,Zt,Zu,Zv,Zw,Zx,Zy,Zz,Z0,Z1,Z2,Z3,Z4,Z5,Z6,Z7,Z8,Z9,Ja,Jb,Jc,Jd,Je,Jf,Jg,Jh,Ji,Jj,Jk,Jl,Jm,Jn,Jo,Jp,Jq,Jr,Js,Jt,Ju,Jv,Jw,Jx,Jy,Jz,J0,J1,J2,J3,J4,J5,J6,J7,J8,J9,Ka,Kb,Kc,Kd,Ke,Kf,Kg,Kh,Ki,Kj,Kk,Kl,Km,Kn,Ko,Kp,Kq,Kr,Ks,Kt,Ku,Kv,Kw,Kx,Ky,Kz,K0,K1,K2,K3,K4,K5,K6,K7,K8,K9,Ua,Ub,Uc,Ud,Ue,Uf,Ug,Uh,Ui,Uj,Uk,Ul,Um,Un,Uo,Up,Uq,Ur,Us,Ut,Uu,Uv,Uw,Ux,Uy,Uz,U0,U1,U2,U3,U4,U5,U6,U7,U8,U9,Va,Vb,Vc,Vd,Ve,Vf,Vg,Vh,Vi,Vj,Vk,Vl,Vm,Vn,Vo,Vp,Vq,Vr,Vs,Vt,Vu,Vv,Vw,Vx,Vy,Vz,V0,V1,V2,V3,V4,V5,V6,V7,V8,V9,Wa,Wb,Wc,Wd,We,Wf,Wg,Wh,Wi,Wj,Wk,Wl,Wm,Wn,Wo,Wp,Wq,Wr,Ws,Wt,Wu,Wv,Ww,Wx,Wy,Wz,W0,W1,W2,W3,W4,W5,W6,W7,W8,W9,Ha,Hb,Hc,Hd,He,Hf,Hg,Hh,Hi,Hj,Hk,Hl,Hm,Hn,Ho,Hp,Hq,Hr,Hs,Ht,Hu,Hv,Hw,Hx,Hy,Hz,H0,H1,H2,H3,H4,H5,H6,H7,H8,H9,Na,Nb,Nc,Nd,Ne,Nf,Ng,Nh,Ni,Nj,Nk,Nl,Nm,Nn,No,Np,Nq,Nr,Ns,Nt,Nu,Nv,Nw,Nx,Ny,Nz,N0,N1,N2,N3,N4,N5,N6,N7,N8,N9,Ba,Bb,Bc,Bd,Be,Bf,Bg,Bh,Bi,Bj,Bk,Bl,Bm,Bn,Bo,Bp,Bq,Br,Bs,Bt,Bu,Bv,Bw,Bx,By,Bz,BA,BB,BC,BD,BE,BF,BG,BH,BI,BJ,BK,BL,BM,BN,BO,BP,BQ,BR,BS,BT,BU,BV,BW,BX,BY,BZ,Ca,Cb,q2R0.eq_1,q2R1.eq_1,q2R2.eq_1,q2R3.eq_1,q2R4.eq_1,q2R5.eq_1,q2R6.eq_1,q2R7.eq_1,q2R8.eq_1,q2R9.eq_1,q2R10.eq_1,q2R11.eq_1,q2R12.eq_1,q2R13.eq_1,q2R14.eq_1,q2R15.eq_1,q2R16.eq_1,q2R17.eq_1,c_size_Least.eq_1,hM,cl,cs,ct,cv,hm,hln,key])
    | false =>
      rw [if_neg (by simp)]
      rw [ht] at key
      (sym => simp [Qa,Qb,Qc,Qd,Qe,Qf,Qg,Qh,Qi,Qj,Qk,Ql,Qm,Qn,Qo,Qp,Qq,Qr,Qs,Qt,Qu,Qv,Qw,Qx,Qy,Qz,Q0,Q1,Q2,Q3,Q4,Q5,Q6,Q7,Q8,Q9,Xa,Xb,Xc,Xd,Xe,Xf,Xg,Xh,Xi,Xj,Xk,Xl,Xm,Xn,Xo,Xp,Xq,Xr,Xs,Xt,Xu,Xv,Xw,Xx,Xy,Xz,X0,X1,X2,X3,X4,X5,X6,X7,X8,X9,Ya,Yb,Yc,Yd,Ye,Yf,Yg,Yh,Yi,Yj,Yk,Yl,Ym,Yn,Yo,Yp,Yq,Yr,Ys,Yt,Yu,Yv,Yw,Yx,Yy,Yz,Y0,Y1,Y2,Y3,Y4,Y5,Y6,Y7,Y8,Y9,Za,Zb,Zc,Zd,Ze,Zf,Zg,Zh,Zi,Zj,Zk,Zl,Zm,Zn,Zo,Zp,Zq,Zr,Zs,Zt,Zu,Zv,Zw,Zx,Zy,Zz,Z0,Z1,Z2,Z3,Z4,Z5,Z6,Z7,Z8,Z9,Ja,Jb,Jc,Jd,Je,Jf,Jg,Jh,Ji,Jj,Jk,Jl,Jm,Jn,Jo,Jp,Jq,Jr,Js,Jt,Ju,Jv,Jw,Jx,Jy,Jz,J0,J1,J2,J3,J4,J5,J6,J7,J8,J9,Ka,Kb,Kc,Kd,Ke,Kf,Kg,Kh,Ki,Kj,Kk,Kl,Km,Kn,Ko,Kp,Kq,Kr,Ks,Kt,Ku,Kv,Kw,Kx,Ky,Kz,K0,K1,K2,K3,K4,K5,K6,K7,K8,K9,Ua,Ub,Uc,Ud,Ue,Uf,Ug,Uh,Ui,Uj,Uk,Ul,Um,Un,Uo,Up,Uq,Ur,Us,Ut,Uu,Uv,Uw,Ux,Uy,Uz,U0,U1,U2,U3,U4,U5,U6,U7,U8,U9,Va,Vb,Vc,Vd,Ve,Vf,Vg,Vh,Vi,Vj,Vk,Vl,Vm,Vn,Vo,Vp,Vq,Vr,Vs,Vt,Vu,Vv,Vw,Vx,Vy,Vz,V0,V1,V2,V3,V4,V5,V6,V7,V8,V9,Wa,Wb,Wc,Wd,We,Wf,Wg,Wh,Wi,Wj,Wk,Wl,Wm,Wn,Wo,Wp,Wq,Wr,Ws,Wt,Wu,Wv,Ww,Wx,Wy,Wz,W0,W1,W2,W3,W4,W5,W6,W7,W8,W9,Ha,Hb,Hc,Hd,He,Hf,Hg,Hh,Hi,Hj,Hk,Hl,Hm,Hn,Ho,Hp,Hq,Hr,Hs,Ht,Hu,Hv,Hw,Hx,Hy,Hz,H0,H1,H2,H3,H4,H5,H6,H7,H8,H9,Na,Nb,Nc,Nd,Ne,Nf,Ng,Nh,Ni,Nj,Nk,Nl,Nm,Nn,No,Np,Nq,Nr,Ns,Nt,Nu,Nv,Nw,Nx,Ny,Nz,N0,N1,N2,N3,N4,N5,N6,N7,N8,N9,Ba,Bb,Bc,Bd,Be,Bf,Bg,Bh,Bi,Bj,Bk,Bl,Bm,Bn,Bo,Bp,Bq,Br,Bs,Bt,Bu,Bv,Bw,Bx,By,Bz,BA,BB,BC,BD,BE,BF,BG,BH,BI,BJ,BK,BL,BM,BN,BO,BP,BQ,BR,BS,BT,BU,BV,BW,BX,BY,BZ,Ca,Cb,q2R0.eq_1,q2R1.eq_1,q2R2.eq_1,q2R3.eq_1,q2R4.eq_1,q2R5.eq_1,q2R6.eq_1,q2R7.eq_1,q2R8.eq_1,q2R9.eq_1,q2R10.eq_1,q2R11.eq_1,q2R12.eq_1,q2R13.eq_1,q2R14.eq_1,q2R15.eq_1,q2R16.eq_1,q2R17.eq_1,c_size_Least.eq_1,hM,cl,cs,ct,cv,hm,hln,key])
  · have hm' : mayW w = false := by simpa using hm
    rw [if_neg (by simp [hm'])]
    (sym => simp [Qa,Qb,Qc,Qd,Qe,Qf,Qg,Qh,Qi,Qj,Qk,Ql,Qm,Qn,Qo,Qp,Qq,Qr,Qs,Qt,Qu,Qv,Qw,Qx,Qy,Qz,Q0,Q1,Q2,Q3,Q4,Q5,Q6,Q7,Q8,Q9,Xa,Xb,Xc,Xd,Xe,Xf,Xg,Xh,Xi,Xj,Xk,Xl,Xm,Xn,Xo,Xp,Xq,Xr,Xs,Xt,Xu,Xv,Xw,Xx,Xy,Xz,X0,X1,X2,X3,X4,X5,X6,X7,X8,X9,Ya,Yb,Yc,Yd,Ye,Yf,Yg,Yh,Yi,Yj,Yk,Yl,Ym,Yn,Yo,Yp,Yq,Yr,Ys,Yt,Yu,Yv,Yw,Yx,Yy,Yz,Y0,Y1,Y2,Y3,Y4,Y5,Y6,Y7,Y8,Y9,Za,Zb,Zc,Zd,Ze,Zf,Zg,Zh,Zi,Zj,Zk,Zl,Zm,Zn,Zo,Zp,Zq,Zr,Zs,Zt,Zu,Zv,Zw,Zx,Zy,Zz,Z0,Z1,Z2,Z3,Z4,Z5,Z6,Z7,Z8,Z9,Ja,Jb,Jc,Jd,Je,Jf,Jg,Jh,Ji,Jj,Jk,Jl,Jm,Jn,Jo,Jp,Jq,Jr,Js,Jt,Ju,Jv,Jw,Jx,Jy,Jz,J0,J1,J2,J3,J4,J5,J6,J7,J8,J9,Ka,Kb,Kc,Kd,Ke,Kf,Kg,Kh,Ki,Kj,Kk,Kl,Km,Kn,Ko,Kp,Kq,Kr,Ks,Kt,Ku,Kv,Kw,Kx,Ky,Kz,K0,K1,K2,K3,K4,K5,K6,K7,K8,K9,Ua,Ub,Uc,Ud,Ue,Uf,Ug,Uh,Ui,Uj,Uk,Ul,Um,Un,Uo,Up,Uq,Ur,Us,Ut,Uu,Uv,Uw,Ux,Uy,Uz,U0,U1,U2,U3,U4,U5,U6,U7,U8,U9,Va,Vb,Vc,Vd,Ve,Vf,Vg,Vh,Vi,Vj,Vk,Vl,Vm,Vn,Vo,Vp,Vq,Vr,Vs,Vt,Vu,Vv,Vw,Vx,Vy,Vz,V0,V1,V2,V3,V4,V5,V6,V7,V8,V9,Wa,Wb,Wc,Wd,We,Wf,Wg,Wh,Wi,Wj,Wk,Wl,Wm,Wn,Wo,Wp,Wq,Wr,Ws,Wt,Wu,Wv,Ww,Wx,Wy,Wz,W0,W1,W2,W3,W4,W5,W6,W7,W8,W9,Ha,Hb,Hc,Hd,He,Hf,Hg,Hh,Hi,Hj,Hk,Hl,Hm,Hn,Ho,Hp,Hq,Hr,Hs,Ht,Hu,Hv,Hw,Hx,Hy,Hz,H0,H1,H2,H3,H4,H5,H6,H7,H8,H9,Na,Nb,Nc,Nd,Ne,Nf,Ng,Nh,Ni,Nj,Nk,Nl,Nm,Nn,No,Np,Nq,Nr,Ns,Nt,Nu,Nv,Nw,Nx,Ny,Nz,N0,N1,N2,N3,N4,N5,N6,N7,N8,N9,Ba,Bb,Bc,Bd,Be,Bf,Bg,Bh,Bi,Bj,Bk,Bl,Bm,Bn,Bo,Bp,Bq,Br,Bs,Bt,Bu,Bv,Bw,Bx,By,Bz,BA,BB,BC,BD,BE,BF,BG,BH,BI,BJ,BK,BL,BM,BN,BO,BP,BQ,BR,BS,BT,BU,BV,BW,BX,BY,BZ,Ca,Cb,q2R0.eq_1,q2R1.eq_1,q2R2.eq_1,q2R3.eq_1,q2R4.eq_1,q2R5.eq_1,q2R6.eq_1,q2R7.eq_1,q2R8.eq_1,q2R9.eq_1,q2R10.eq_1,q2R11.eq_1,q2R12.eq_1,q2R13.eq_1,q2R14.eq_1,q2R15.eq_1,q2R16.eq_1,q2R17.eq_1,c_size_Least.eq_1,hM,cl,cs,ct,cv,hm'])
end Go.Proofs.Ytcjlkggdcnochaa
