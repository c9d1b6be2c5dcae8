/- The document's parser: Put, from any state. Conditions: none. -/
import Derived.Test.YtkkcblfoaldckaaVr9
set_option linter.unusedVariables false
set_option linter.unusedSimpArgs false
set_option linter.unusedSectionVars false
set_option maxRecDepth 20000
set_option maxHeartbeats 4000000
namespace Go.Proofs.Ytkkcblfoaldckaa
open Go
variable (G : Nat → Option (List AV)) (g : Nat) (es : List (List AV)) (fl : Bool) (hh : List ARow)
section
variable (c : Int) (h1 : 128 ≤ c) (h2 : c < 160)
include h1 h2
theorem rput_q (R : List ARow) (p o p2 o2 a b a' : ARow) (he1 : aR G FT n_ref11_Parser_one [.ptr 0 0 0 0, .int .i32 27] hh = some (.data false 6 [] true, p :: o :: (R ++ [a'])))
    (he2 : aR G FT n_ref11_Parser_one [.ptr 0 0 0 0, .int .i32 (c - 64)] (p :: o :: (R ++ [a'])) = some (.data false 6 [] true, p2 :: o2 :: (R ++ [a] ++ [b]))) :
    aR G FT n_ref11_Parser_Put [.ptr 0 0 0 0, .int .i32 c] hh = some (.data false 6 [] false, p2 :: o2 :: (R ++ [a] ++ [b] ++ [⟨6, 1, true, []⟩])) := by
  rw [run_ref11_Parser_Put]
  have k1 : ¬ c < 0 := by omega
  have k2 : ¬ 1114111 < c := by omega
  have k3 : ¬ 55296 ≤ c := by omega
  have k4 : c ≤ 159 := by omega
  have w := i32_in (n := c - 64) (by omega) (by omega)
  have e3 : ∀ x y z : ARow, (R ++ [x] ++ [y] ++ [z])[R.length + 1 + 1]? = some z := fun x y z => by rw [List.getElem?_append_right (by simp)]; simp
  have e4 : ∀ x y z z' : ARow, (R ++ [x] ++ [y] ++ [z]).set (R.length + 1 + 1) z' = R ++ [x] ++ [y] ++ [z'] := fun x y z z' => by rw [List.set_append_right _ _ (by simp)]; simp
  have e5 : ∀ x y : ARow, (R ++ [x] ++ [y]).length = R.length + 1 + 1 := fun x y => by simp
  (sym => simp [Qa,Qb,Qc,Qd,Qe,Qf,Qg,Qh,Qi,Qj,Qk,Ql,Qm,Qn,Qo,Qp,Qq,Qr,Qs,Qt,Qu,Qv,Qw,Qx,Qy,Qz,Q0,Q1,Q2,Q3,Q4,Q5,Q6,Q7,Q8,Q9,Xa,Xb,Xc,Xd,Xe,Xf,Xg,Xh,Xi,Xj,Xk,Xl,Xm,Xn,Xo,Xp,Xq,Xr,Xs,Xt,Xu,Xv,Xw,Xx,Xy,Xz,X0,X1,X2,X3,X4,X5,X6,X7,X8,X9,Ya,Yb,Yc,Yd,Ye,Yf,Yg,Yh,Yi,Yj,Yk,Yl,Ym,Yn,Yo,Yp,Yq,Yr,Ys,Yt,Yu,Yv,Yw,Yx,Yy,Yz,Y0,Y1,Y2,Y3,Y4,Y5,Y6,Y7,Y8,Y9,Za,Zb,Zc,Zd,Ze,Zf,Zg,Zh,Zi,Zj,Zk,Zl,Zm,Zn,Zo,Zp,Zq,Zr,Zs,Zt,Zu,Zv,Zw,Zx,Zy,Zz,Z0,Z1,Z2,Z3,Z4,Z5,Z6,Z7,Z8,Z9,Ja,Jb,Jc,Jd,Je,Jf,Jg,Jh,Ji,Jj,Jk,Jl,Jm,Jn,Jo,Jp,Jq,Jr,Js,Jt,Ju,Jv,Jw,Jx,Jy,Jz,J0,J1,J2,J3,J4,J5,J6,J7,J8,J9,Ka,Kb,Kc,Kd,Ke,Kf,Kg,Kh,Ki,Kj,Kk,Kl,Km,Kn,Ko,Kp,Kq,Kr,Ks,Kt,Ku,Kv,Kw,Kx,Ky,Kz,K0,K1,K2,K3,K4,K5,K6,K7,K8,K9,Ua,Ub,Uc,Ud,Ue,Uf,Ug,Uh,Ui,Uj,Uk,Ul,Um,Un,Uo,Up,Uq,Ur,Us,Ut,Uu,Uv,Uw,Ux,Uy,Uz,U0,U1,U2,U3,U4,U5,U6,U7,U8,U9,Va,Vb,Vc,Vd,Ve,Vf,Vg,Vh,Vi,Vj,Vk,Vl,Vm,Vn,Vo,Vp,Vq,Vr,Vs,Vt,Vu,Vv,Vw,Vx,Vy,Vz,V0,V1,V2,V3,V4,V5,V6,V7,V8,V9,Wa,Wb,Wc,Wd,We,Wf,Wg,Wh,Wi,Wj,Wk,Wl,Wm,Wn,Wo,Wp,Wq,Wr,Ws,Wt,Wu,Wv,Ww,Wx,Wy,Wz,W0,W1,W2,W3,W4,W5,W6,W7,W8,W9,Ha,Hb,Hc,Hd,He,Hf,Hg,Hh,Hi,Hj,Hk,Hl,Hm,Hn,Ho,Hp,Hq,Hr,Hs,Ht,Hu,Hv,Hw,Hx,Hy,Hz,H0,H1,H2,H3,H4,H5,H6,H7,H8,H9,Na,Nb,Nc,Nd,Ne,Nf,Ng,Nh,Ni,Nj,Nk,Nl,Nm,Nn,No,Np,Nq,Nr,Ns,Nt,Nu,Nv,Nw,Nx,Ny,Nz,N0,N1,N2,N3,N4,N5,N6,N7,N8,N9,Ba,Bb,Bc,Bd,Be,Bf,Bg,Bh,Bi,Bj,Bk,Bl,Bm,Bn,Bo,Bp,Bq,Br,Bs,Bt,Bu,Bv,Bw,Bx,By,Bz,BA,BB,BC,q8R0.eq_1,q8R1.eq_1,q8R2.eq_1,q8R3.eq_1,q8R4.eq_1,q8R5.eq_1,q8R6.eq_1,q8R7.eq_1,c_ref11_Parser_Put.eq_1,h1,k1,k2,k3,k4,w,he1,he2,e3,e4,e5])
theorem rput_t (l : List AV) (hs : AV.stableL l = true) (R : List ARow) (p o p2 o2 a b a' : ARow) (he1 : aR G FT n_ref11_Parser_one [.ptr 0 0 0 0, .int .i32 27] hh = some (.data false 6 [] true, p :: o :: (R ++ [a'])))
    (he2 : aR G FT n_ref11_Parser_one [.ptr 0 0 0 0, .int .i32 (c - 64)] (p :: o :: (R ++ [a'])) = some (.data false 6 [l] false, p2 :: o2 :: (R ++ [a] ++ [b]))) :
    aR G FT n_ref11_Parser_Put [.ptr 0 0 0 0, .int .i32 c] hh = some (.data false 6 [l] false, p2 :: o2 :: (R ++ [a] ++ [b] ++ [⟨6, 1, true, []⟩])) := by
  rw [run_ref11_Parser_Put]
  have k1 : ¬ c < 0 := by omega
  have k2 : ¬ 1114111 < c := by omega
  have k3 : ¬ 55296 ≤ c := by omega
  have k4 : c ≤ 159 := by omega
  have w := i32_in (n := c - 64) (by omega) (by omega)
  have e3 : ∀ x y z : ARow, (R ++ [x] ++ [y] ++ [z])[R.length + 1 + 1]? = some z := fun x y z => by rw [List.getElem?_append_right (by simp)]; simp
  have e4 : ∀ x y z z' : ARow, (R ++ [x] ++ [y] ++ [z]).set (R.length + 1 + 1) z' = R ++ [x] ++ [y] ++ [z'] := fun x y z z' => by rw [List.set_append_right _ _ (by simp)]; simp
  have e5 : ∀ x y : ARow, (R ++ [x] ++ [y]).length = R.length + 1 + 1 := fun x y => by simp
  (sym => simp [Qa,Qb,Qc,Qd,Qe,Qf,Qg,Qh,Qi,Qj,Qk,Ql,Qm,Qn,Qo,Qp,Qq,Qr,Qs,Qt,Qu,Qv,Qw,Qx,Qy,Qz,Q0,Q1,Q2,Q3,Q4,Q5,Q6,Q7,Q8,Q9,Xa,Xb,Xc,Xd,Xe,Xf,Xg,Xh,Xi,Xj,Xk,Xl,Xm,Xn,Xo,Xp,Xq,Xr,Xs,Xt,Xu,Xv,Xw,Xx,Xy,Xz,X0,X1,X2,X3,X4,X5,X6,X7,X8,X9,Ya,Yb,Yc,Yd,Ye,Yf,Yg,Yh,Yi,Yj,Yk,Yl,Ym,Yn,Yo,Yp,Yq,Yr,Ys,Yt,Yu,Yv,Yw,Yx,Yy,Yz,Y0,Y1,Y2,Y3,Y4,Y5,Y6,Y7,Y8,Y9,Za,Zb,Zc,Zd,Ze,Zf,Zg,Zh,Zi,Zj,Zk,Zl,Zm,Zn,Zo,Zp,Zq,Zr,Zs,Zt,Zu,Zv,Zw,Zx,Zy,Zz,Z0,Z1,Z2,Z3,Z4,Z5,Z6,Z7,Z8,Z9,Ja,Jb,Jc,Jd,Je,Jf,Jg,Jh,Ji,Jj,Jk,Jl,Jm,Jn,Jo,Jp,Jq,Jr,Js,Jt,Ju,Jv,Jw,Jx,Jy,Jz,J0,J1,J2,J3,J4,J5,J6,J7,J8,J9,Ka,Kb,Kc,Kd,Ke,Kf,Kg,Kh,Ki,Kj,Kk,Kl,Km,Kn,Ko,Kp,Kq,Kr,Ks,Kt,Ku,Kv,Kw,Kx,Ky,Kz,K0,K1,K2,K3,K4,K5,K6,K7,K8,K9,Ua,Ub,Uc,Ud,Ue,Uf,Ug,Uh,Ui,Uj,Uk,Ul,Um,Un,Uo,Up,Uq,Ur,Us,Ut,Uu,Uv,Uw,Ux,Uy,Uz,U0,U1,U2,U3,U4,U5,U6,U7,U8,U9,Va,Vb,Vc,Vd,Ve,Vf,Vg,Vh,Vi,Vj,Vk,Vl,Vm,Vn,Vo,Vp,Vq,Vr,Vs,Vt,Vu,Vv,Vw,Vx,Vy,Vz,V0,V1,V2,V3,V4,V5,V6,V7,V8,V9,Wa,Wb,Wc,Wd,We,Wf,Wg,Wh,Wi,Wj,Wk,Wl,Wm,Wn,Wo,Wp,Wq,Wr,Ws,Wt,Wu,Wv,Ww,Wx,Wy,Wz,W0,W1,W2,W3,W4,W5,W6,W7,W8,W9,Ha,Hb,Hc,Hd,He,Hf,Hg,Hh,Hi,Hj,Hk,Hl,Hm,Hn,Ho,Hp,Hq,Hr,Hs,Ht,Hu,Hv,Hw,Hx,Hy,Hz,H0,H1,H2,H3,H4,H5,H6,H7,H8,H9,Na,Nb,Nc,Nd,Ne,Nf,Ng,Nh,Ni,Nj,Nk,Nl,Nm,Nn,No,Np,Nq,Nr,Ns,Nt,Nu,Nv,Nw,Nx,Ny,Nz,N0,N1,N2,N3,N4,N5,N6,N7,N8,N9,Ba,Bb,Bc,Bd,Be,Bf,Bg,Bh,Bi,Bj,Bk,Bl,Bm,Bn,Bo,Bp,Bq,Br,Bs,Bt,Bu,Bv,Bw,Bx,By,Bz,BA,BB,BC,q8R0.eq_1,q8R1.eq_1,q8R2.eq_1,q8R3.eq_1,q8R4.eq_1,q8R5.eq_1,q8R6.eq_1,q8R7.eq_1,c_ref11_Parser_Put.eq_1,h1,k1,k2,k3,k4,w,he1,he2,e3,e4,e5,hs])
theorem rput_q1 (ts : List Int) (p o p2 o2 hd a b a' : ARow) (he1 : aR G FT n_ref11_Parser_one [.ptr 0 0 0 0, .int .i32 27] hh = some (.own 4 0 0 1 1, [p, o, hd, ⟨1, 0, true, rn ts⟩, ⟨6, 0, false, [[.int .i64 5, .int .i32 0, .int .i32 0, .str ⟨#[]⟩, .data false 1 [] true, .own 3 0 0 ts.length ts.length]]⟩, a']))
    (he2 : aR G FT n_ref11_Parser_one [.ptr 0 0 0 0, .int .i32 (c - 64)] [p, o, hd, ⟨1, 0, true, rn ts⟩, ⟨6, 0, false, [[.int .i64 5, .int .i32 0, .int .i32 0, .str ⟨#[]⟩, .data false 1 [] true, .own 3 0 0 ts.length ts.length]]⟩, a'] =
      some (.data false 6 [] true, [p2, o2, hd, ⟨1, 0, true, rn ts⟩, ⟨6, 0, false, [[.int .i64 5, .int .i32 0, .int .i32 0, .str ⟨#[]⟩, .data false 1 [] true, .own 3 0 0 ts.length ts.length]]⟩, a, b])) :
    aR G FT n_ref11_Parser_Put [.ptr 0 0 0 0, .int .i32 c] hh = some (.data false 6 [[.int .i64 5, .int .i32 0, .int .i32 0, .str ⟨#[]⟩, .data false 1 [] true, .data false 1 (rn ts) false]] false, [p2, o2, hd, ⟨1, 1, true, []⟩, ⟨6, 2, true, []⟩, a, b]) := by
  rw [run_ref11_Parser_Put]
  have k1 : ¬ c < 0 := by omega
  have k2 : ¬ 1114111 < c := by omega
  have k3 : ¬ 55296 ≤ c := by omega
  have k4 : c ≤ 159 := by omega
  have w := i32_in (n := c - 64) (by omega) (by omega)
  have l1 := rn_len ts
  have l2 := rn_take ts
  (sym => simp [Qa,Qb,Qc,Qd,Qe,Qf,Qg,Qh,Qi,Qj,Qk,Ql,Qm,Qn,Qo,Qp,Qq,Qr,Qs,Qt,Qu,Qv,Qw,Qx,Qy,Qz,Q0,Q1,Q2,Q3,Q4,Q5,Q6,Q7,Q8,Q9,Xa,Xb,Xc,Xd,Xe,Xf,Xg,Xh,Xi,Xj,Xk,Xl,Xm,Xn,Xo,Xp,Xq,Xr,Xs,Xt,Xu,Xv,Xw,Xx,Xy,Xz,X0,X1,X2,X3,X4,X5,X6,X7,X8,X9,Ya,Yb,Yc,Yd,Ye,Yf,Yg,Yh,Yi,Yj,Yk,Yl,Ym,Yn,Yo,Yp,Yq,Yr,Ys,Yt,Yu,Yv,Yw,Yx,Yy,Yz,Y0,Y1,Y2,Y3,Y4,Y5,Y6,Y7,Y8,Y9,Za,Zb,Zc,Zd,Ze,Zf,Zg,Zh,Zi,Zj,Zk,Zl,Zm,Zn,Zo,Zp,Zq,Zr,Zs,Zt,Zu,Zv,Zw,Zx,Zy,Zz,Z0,Z1,Z2,Z3,Z4,Z5,Z6,Z7,Z8,Z9,Ja,Jb,Jc,Jd,Je,Jf,Jg,Jh,Ji,Jj,Jk,Jl,Jm,Jn,Jo,Jp,Jq,Jr,Js,Jt,Ju,Jv,Jw,Jx,Jy,Jz,J0,J1,J2,J3,J4,J5,J6,J7,J8,J9,Ka,Kb,Kc,Kd,Ke,Kf,Kg,Kh,Ki,Kj,Kk,Kl,Km,Kn,Ko,Kp,Kq,Kr,Ks,Kt,Ku,Kv,Kw,Kx,Ky,Kz,K0,K1,K2,K3,K4,K5,K6,K7,K8,K9,Ua,Ub,Uc,Ud,Ue,Uf,Ug,Uh,Ui,Uj,Uk,Ul,Um,Un,Uo,Up,Uq,Ur,Us,Ut,Uu,Uv,Uw,Ux,Uy,Uz,U0,U1,U2,U3,U4,U5,U6,U7,U8,U9,Va,Vb,Vc,Vd,Ve,Vf,Vg,Vh,Vi,Vj,Vk,Vl,Vm,Vn,Vo,Vp,Vq,Vr,Vs,Vt,Vu,Vv,Vw,Vx,Vy,Vz,V0,V1,V2,V3,V4,V5,V6,V7,V8,V9,Wa,Wb,Wc,Wd,We,Wf,Wg,Wh,Wi,Wj,Wk,Wl,Wm,Wn,Wo,Wp,Wq,Wr,Ws,Wt,Wu,Wv,Ww,Wx,Wy,Wz,W0,W1,W2,W3,W4,W5,W6,W7,W8,W9,Ha,Hb,Hc,Hd,He,Hf,Hg,Hh,Hi,Hj,Hk,Hl,Hm,Hn,Ho,Hp,Hq,Hr,Hs,Ht,Hu,Hv,Hw,Hx,Hy,Hz,H0,H1,H2,H3,H4,H5,H6,H7,H8,H9,Na,Nb,Nc,Nd,Ne,Nf,Ng,Nh,Ni,Nj,Nk,Nl,Nm,Nn,No,Np,Nq,Nr,Ns,Nt,Nu,Nv,Nw,Nx,Ny,Nz,N0,N1,N2,N3,N4,N5,N6,N7,N8,N9,Ba,Bb,Bc,Bd,Be,Bf,Bg,Bh,Bi,Bj,Bk,Bl,Bm,Bn,Bo,Bp,Bq,Br,Bs,Bt,Bu,Bv,Bw,Bx,By,Bz,BA,BB,BC,q8R0.eq_1,q8R1.eq_1,q8R2.eq_1,q8R3.eq_1,q8R4.eq_1,q8R5.eq_1,q8R6.eq_1,q8R7.eq_1,c_ref11_Parser_Put.eq_1,h1,k1,k2,k3,k4,w,he1,he2,l1,l2])
theorem rput_t1 (ts : List Int) (d : Int) (p o p2 o2 hd a b a' : ARow) (he1 : aR G FT n_ref11_Parser_one [.ptr 0 0 0 0, .int .i32 27] hh = some (.own 4 0 0 1 1, [p, o, hd, ⟨1, 0, true, rn ts⟩, ⟨6, 0, false, [[.int .i64 5, .int .i32 0, .int .i32 0, .str ⟨#[]⟩, .data false 1 [] true, .own 3 0 0 ts.length ts.length]]⟩, a']))
    (he2 : aR G FT n_ref11_Parser_one [.ptr 0 0 0 0, .int .i32 (c - 64)] [p, o, hd, ⟨1, 0, true, rn ts⟩, ⟨6, 0, false, [[.int .i64 5, .int .i32 0, .int .i32 0, .str ⟨#[]⟩, .data false 1 [] true, .own 3 0 0 ts.length ts.length]]⟩, a'] =
      some (.data false 6 [[.int .i64 3, .int .i32 d, .int .i32 0, .str ⟨#[]⟩, .data false 1 [] true, .data false 1 [] true]] false, [p2, o2, hd, ⟨1, 0, true, rn ts⟩, ⟨6, 0, false, [[.int .i64 5, .int .i32 0, .int .i32 0, .str ⟨#[]⟩, .data false 1 [] true, .own 3 0 0 ts.length ts.length]]⟩, a, b])) :
    aR G FT n_ref11_Parser_Put [.ptr 0 0 0 0, .int .i32 c] hh = some (.data false 6 [[.int .i64 5, .int .i32 0, .int .i32 0, .str ⟨#[]⟩, .data false 1 [] true, .data false 1 (rn ts) false], [.int .i64 3, .int .i32 d, .int .i32 0, .str ⟨#[]⟩, .data false 1 [] true, .data false 1 [] true]] false, [p2, o2, hd, ⟨1, 1, true, []⟩, ⟨6, 2, true, []⟩, a, b]) := by
  rw [run_ref11_Parser_Put]
  have k1 : ¬ c < 0 := by omega
  have k2 : ¬ 1114111 < c := by omega
  have k3 : ¬ 55296 ≤ c := by omega
  have k4 : c ≤ 159 := by omega
  have w := i32_in (n := c - 64) (by omega) (by omega)
  have l1 := rn_len ts
  have l2 := rn_take ts
  (sym => simp [Qa,Qb,Qc,Qd,Qe,Qf,Qg,Qh,Qi,Qj,Qk,Ql,Qm,Qn,Qo,Qp,Qq,Qr,Qs,Qt,Qu,Qv,Qw,Qx,Qy,Qz,Q0,Q1,Q2,Q3,Q4,Q5,Q6,Q7,Q8,Q9,Xa,Xb,Xc,Xd,Xe,Xf,Xg,Xh,Xi,Xj,Xk,Xl,Xm,Xn,Xo,Xp,Xq,Xr,Xs,Xt,Xu,Xv,Xw,Xx,Xy,Xz,X0,X1,X2,X3,X4,X5,X6,X7,X8,X9,Ya,Yb,Yc,Yd,Ye,Yf,Yg,Yh,Yi,Yj,Yk,Yl,Ym,Yn,Yo,Yp,Yq,Yr,Ys,Yt,Yu,Yv,Yw,Yx,Yy,Yz,Y0,Y1,Y2,Y3,Y4,Y5,Y6,Y7,Y8,Y9,Za,Zb,Zc,Zd,Ze,Zf,Zg,Zh,Zi,Zj,Zk,Zl,Zm,Zn,Zo,Zp,Zq,Zr,Zs,Zt,Zu,Zv,Zw,Zx,Zy,Zz,Z0,Z1,Z2,Z3,Z4,Z5,Z6,Z7,Z8,Z9,Ja,Jb,Jc,Jd,Je,Jf,Jg,Jh,Ji,Jj,Jk,Jl,Jm,Jn,Jo,Jp,Jq,Jr,Js,Jt,Ju,Jv,Jw,Jx,Jy,Jz,J0,J1,J2,J3,J4,J5,J6,J7,J8,J9,Ka,Kb,Kc,Kd,Ke,Kf,Kg,Kh,Ki,Kj,Kk,Kl,Km,Kn,Ko,Kp,Kq,Kr,Ks,Kt,Ku,Kv,Kw,Kx,Ky,Kz,K0,K1,K2,K3,K4,K5,K6,K7,K8,K9,Ua,Ub,Uc,Ud,Ue,Uf,Ug,Uh,Ui,Uj,Uk,Ul,Um,Un,Uo,Up,Uq,Ur,Us,Ut,Uu,Uv,Uw,Ux,Uy,Uz,U0,U1,U2,U3,U4,U5,U6,U7,U8,U9,Va,Vb,Vc,Vd,Ve,Vf,Vg,Vh,Vi,Vj,Vk,Vl,Vm,Vn,Vo,Vp,Vq,Vr,Vs,Vt,Vu,Vv,Vw,Vx,Vy,Vz,V0,V1,V2,V3,V4,V5,V6,V7,V8,V9,Wa,Wb,Wc,Wd,We,Wf,Wg,Wh,Wi,Wj,Wk,Wl,Wm,Wn,Wo,Wp,Wq,Wr,Ws,Wt,Wu,Wv,Ww,Wx,Wy,Wz,W0,W1,W2,W3,W4,W5,W6,W7,W8,W9,Ha,Hb,Hc,Hd,He,Hf,Hg,Hh,Hi,Hj,Hk,Hl,Hm,Hn,Ho,Hp,Hq,Hr,Hs,Ht,Hu,Hv,Hw,Hx,Hy,Hz,H0,H1,H2,H3,H4,H5,H6,H7,H8,H9,Na,Nb,Nc,Nd,Ne,Nf,Ng,Nh,Ni,Nj,Nk,Nl,Nm,Nn,No,Np,Nq,Nr,Ns,Nt,Nu,Nv,Nw,Nx,Ny,Nz,N0,N1,N2,N3,N4,N5,N6,N7,N8,N9,Ba,Bb,Bc,Bd,Be,Bf,Bg,Bh,Bi,Bj,Bk,Bl,Bm,Bn,Bo,Bp,Bq,Br,Bs,Bt,Bu,Bv,Bw,Bx,By,Bz,BA,BB,BC,q8R0.eq_1,q8R1.eq_1,q8R2.eq_1,q8R3.eq_1,q8R4.eq_1,q8R5.eq_1,q8R6.eq_1,q8R7.eq_1,c_ref11_Parser_Put.eq_1,h1,k1,k2,k3,k4,w,he1,he2,l1,l2])
end
end Go.Proofs.Ytkkcblfoaldckaa
