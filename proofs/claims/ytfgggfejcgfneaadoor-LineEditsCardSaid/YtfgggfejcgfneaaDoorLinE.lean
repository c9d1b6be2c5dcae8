/- LineEdits. Conditions: none. -/
import Derived.Test.YtfgggfejcgfneaaDoorLinB
import Derived.Test.YtfgggfejcgfneaaDoorLinD
set_option linter.unusedVariables false
set_option linter.unusedSimpArgs false
set_option linter.unusedSectionVars false
set_option maxRecDepth 20000
set_option maxHeartbeats 2000000
namespace Go.Proofs.YtfgggfejcgfneaaDoor
open Go
theorem fine14_P (l : List Cl) (f : Bool) (b fo k : Int) (x y : List Cl) (f1 f2 b1 b2 : Bool) (hl : l.length ≤ 100000) (hx : x.length ≤ 100000) (hs : (mayL l = false ∨ penB b fo k = false) → x = []) (he : mayL l = true → penB b fo k = true → x = y) :
    aP G13 FT n_law14_fine [.data false 7 (cells l) f, .agg [.int .i64 b, .int .i64 fo, .int .i64 k], .data b1 7 (cells x) f1, .data b2 7 (cells y) f2] = some (.bool true) := by
  have hm := rmay_L G13 G13_0 l false f hl
  have hp := pen14_P G13 b fo k
  unfold aP
  rw [run_law14_fine]
  cases h1 : mayL l
  · have e := hs (.inl h1)
    subst e
    (sym => simp [Qa,Qb,Qc,Qd,Qe,Qf,Qg,Qh,Qi,Qj,Qk,Ql,Qm,Qn,Qo,Qp,Qq,Qr,Qs,Qt,Qu,Qv,Qw,Qx,Qy,Qz,Q0,Q1,Q2,Q3,Q4,Q5,Q6,Q7,Q8,Q9,Xa,Xb,Xc,Xd,Xe,Xf,Xg,Xh,Xi,Xj,Xk,Xl,Xm,Xn,Xo,Xp,Xq,Xr,Xs,Xt,Xu,Xv,Xw,Xx,Xy,Xz,X0,X1,X2,X3,X4,X5,X6,X7,X8,X9,Ya,Yb,Yc,Yd,Ye,Yf,Yg,Yh,Yi,Yj,Yk,Yl,Ym,Yn,Yo,Yp,Yq,Yr,Ys,Yt,Yu,Yv,Yw,Yx,Yy,Yz,Y0,Y1,Y2,Y3,Y4,Y5,Y6,Y7,Y8,Y9,Za,Zb,Zc,Zd,Ze,Zf,Zg,Zh,Zi,Zj,Zk,Zl,Zm,Zn,Zo,Zp,Zq,Zr,Zs,Zt,Zu,Zv,Zw,Zx,Zy,Zz,Z0,Z1,Z2,Z3,Z4,Z5,Z6,Z7,Z8,Z9,Ja,Jb,Jc,Jd,Je,Jf,Jg,Jh,Ji,Jj,Jk,Jl,Jm,Jn,Jo,Jp,Jq,Jr,Js,Jt,Ju,Jv,Jw,Jx,Jy,Jz,J0,J1,J2,J3,J4,J5,J6,J7,J8,J9,Ka,Kb,Kc,Kd,Ke,Kf,Kg,Kh,Ki,Kj,Kk,Kl,Km,Kn,Ko,Kp,Kq,Kr,Ks,Kt,Ku,Kv,Kw,Kx,Ky,Kz,K0,K1,K2,K3,K4,K5,K6,K7,K8,K9,Ua,Ub,Uc,Ud,Ue,Uf,Ug,Uh,Ui,Uj,Uk,Ul,Um,Un,Uo,Up,Uq,Ur,Us,Ut,Uu,Uv,Uw,Ux,Uy,Uz,U0,U1,U2,U3,U4,U5,U6,U7,U8,U9,Va,Vb,Vc,Vd,Ve,Vf,Vg,Vh,Vi,Vj,Vk,Vl,Vm,Vn,Vo,Vp,Vq,Vr,Vs,Vt,Vu,Vv,Vw,Vx,Vy,Vz,V0,V1,V2,V3,V4,V5,V6,V7,V8,V9,Wa,Wb,Wc,Wd,We,Wf,Wg,Wh,Wi,Wj,Wk,Wl,Wm,Wn,Wo,Wp,Wq,Wr,Ws,Wt,Wu,Wv,Ww,Wx,Wy,Wz,W0,W1,W2,W3,W4,W5,W6,W7,W8,W9,Ha,Hb,Hc,Hd,He,Hf,Hg,Hh,Hi,Hj,Hk,Hl,Hm,Hn,Ho,Hp,Hq,Hr,Hs,Ht,Hu,Hv,Hw,Hx,Hy,Hz,H0,H1,H2,H3,H4,H5,H6,H7,H8,H9,Na,Nb,Nc,Nd,Ne,Nf,Ng,Nh,Ni,Nj,Nk,Nl,Nm,Nn,No,Np,Nq,Nr,Ns,Nt,Nu,Nv,Nw,Nx,Ny,Nz,N0,N1,N2,N3,N4,N5,N6,N7,N8,N9,Ba,Bb,Bc,Bd,Be,Bf,Bg,Bh,Bi,c_law14_fine_R0.eq_1,c_law14_fine_R1.eq_1,c_law14_fine_R2.eq_1,c_law14_fine_R3.eq_1,c_law14_fine.eq_1,hm,h1,cells_nil])
  · cases h2 : penB b fo k
    · have e := hs (.inr h2)
      subst e
      (sym => simp [Qa,Qb,Qc,Qd,Qe,Qf,Qg,Qh,Qi,Qj,Qk,Ql,Qm,Qn,Qo,Qp,Qq,Qr,Qs,Qt,Qu,Qv,Qw,Qx,Qy,Qz,Q0,Q1,Q2,Q3,Q4,Q5,Q6,Q7,Q8,Q9,Xa,Xb,Xc,Xd,Xe,Xf,Xg,Xh,Xi,Xj,Xk,Xl,Xm,Xn,Xo,Xp,Xq,Xr,Xs,Xt,Xu,Xv,Xw,Xx,Xy,Xz,X0,X1,X2,X3,X4,X5,X6,X7,X8,X9,Ya,Yb,Yc,Yd,Ye,Yf,Yg,Yh,Yi,Yj,Yk,Yl,Ym,Yn,Yo,Yp,Yq,Yr,Ys,Yt,Yu,Yv,Yw,Yx,Yy,Yz,Y0,Y1,Y2,Y3,Y4,Y5,Y6,Y7,Y8,Y9,Za,Zb,Zc,Zd,Ze,Zf,Zg,Zh,Zi,Zj,Zk,Zl,Zm,Zn,Zo,Zp,Zq,Zr,Zs,Zt,Zu,Zv,Zw,Zx,Zy,Zz,Z0,Z1,Z2,Z3,Z4,Z5,Z6,Z7,Z8,Z9,Ja,Jb,Jc,Jd,Je,Jf,Jg,Jh,Ji,Jj,Jk,Jl,Jm,Jn,Jo,Jp,Jq,Jr,Js,Jt,Ju,Jv,Jw,Jx,Jy,Jz,J0,J1,J2,J3,J4,J5,J6,J7,J8,J9,Ka,Kb,Kc,Kd,Ke,Kf,Kg,Kh,Ki,Kj,Kk,Kl,Km,Kn,Ko,Kp,Kq,Kr,Ks,Kt,Ku,Kv,Kw,Kx,Ky,Kz,K0,K1,K2,K3,K4,K5,K6,K7,K8,K9,Ua,Ub,Uc,Ud,Ue,Uf,Ug,Uh,Ui,Uj,Uk,Ul,Um,Un,Uo,Up,Uq,Ur,Us,Ut,Uu,Uv,Uw,Ux,Uy,Uz,U0,U1,U2,U3,U4,U5,U6,U7,U8,U9,Va,Vb,Vc,Vd,Ve,Vf,Vg,Vh,Vi,Vj,Vk,Vl,Vm,Vn,Vo,Vp,Vq,Vr,Vs,Vt,Vu,Vv,Vw,Vx,Vy,Vz,V0,V1,V2,V3,V4,V5,V6,V7,V8,V9,Wa,Wb,Wc,Wd,We,Wf,Wg,Wh,Wi,Wj,Wk,Wl,Wm,Wn,Wo,Wp,Wq,Wr,Ws,Wt,Wu,Wv,Ww,Wx,Wy,Wz,W0,W1,W2,W3,W4,W5,W6,W7,W8,W9,Ha,Hb,Hc,Hd,He,Hf,Hg,Hh,Hi,Hj,Hk,Hl,Hm,Hn,Ho,Hp,Hq,Hr,Hs,Ht,Hu,Hv,Hw,Hx,Hy,Hz,H0,H1,H2,H3,H4,H5,H6,H7,H8,H9,Na,Nb,Nc,Nd,Ne,Nf,Ng,Nh,Ni,Nj,Nk,Nl,Nm,Nn,No,Np,Nq,Nr,Ns,Nt,Nu,Nv,Nw,Nx,Ny,Nz,N0,N1,N2,N3,N4,N5,N6,N7,N8,N9,Ba,Bb,Bc,Bd,Be,Bf,Bg,Bh,Bi,c_law14_fine_R0.eq_1,c_law14_fine_R1.eq_1,c_law14_fine_R2.eq_1,c_law14_fine_R3.eq_1,c_law14_fine.eq_1,hm,hp,h1,h2,cells_nil])
    · have e := he h1 h2
      subst e
      have hq := fun b f b2 f2 => same_L G13 x x b f b2 f2 hx
      (sym => simp [Qa,Qb,Qc,Qd,Qe,Qf,Qg,Qh,Qi,Qj,Qk,Ql,Qm,Qn,Qo,Qp,Qq,Qr,Qs,Qt,Qu,Qv,Qw,Qx,Qy,Qz,Q0,Q1,Q2,Q3,Q4,Q5,Q6,Q7,Q8,Q9,Xa,Xb,Xc,Xd,Xe,Xf,Xg,Xh,Xi,Xj,Xk,Xl,Xm,Xn,Xo,Xp,Xq,Xr,Xs,Xt,Xu,Xv,Xw,Xx,Xy,Xz,X0,X1,X2,X3,X4,X5,X6,X7,X8,X9,Ya,Yb,Yc,Yd,Ye,Yf,Yg,Yh,Yi,Yj,Yk,Yl,Ym,Yn,Yo,Yp,Yq,Yr,Ys,Yt,Yu,Yv,Yw,Yx,Yy,Yz,Y0,Y1,Y2,Y3,Y4,Y5,Y6,Y7,Y8,Y9,Za,Zb,Zc,Zd,Ze,Zf,Zg,Zh,Zi,Zj,Zk,Zl,Zm,Zn,Zo,Zp,Zq,Zr,Zs,Zt,Zu,Zv,Zw,Zx,Zy,Zz,Z0,Z1,Z2,Z3,Z4,Z5,Z6,Z7,Z8,Z9,Ja,Jb,Jc,Jd,Je,Jf,Jg,Jh,Ji,Jj,Jk,Jl,Jm,Jn,Jo,Jp,Jq,Jr,Js,Jt,Ju,Jv,Jw,Jx,Jy,Jz,J0,J1,J2,J3,J4,J5,J6,J7,J8,J9,Ka,Kb,Kc,Kd,Ke,Kf,Kg,Kh,Ki,Kj,Kk,Kl,Km,Kn,Ko,Kp,Kq,Kr,Ks,Kt,Ku,Kv,Kw,Kx,Ky,Kz,K0,K1,K2,K3,K4,K5,K6,K7,K8,K9,Ua,Ub,Uc,Ud,Ue,Uf,Ug,Uh,Ui,Uj,Uk,Ul,Um,Un,Uo,Up,Uq,Ur,Us,Ut,Uu,Uv,Uw,Ux,Uy,Uz,U0,U1,U2,U3,U4,U5,U6,U7,U8,U9,Va,Vb,Vc,Vd,Ve,Vf,Vg,Vh,Vi,Vj,Vk,Vl,Vm,Vn,Vo,Vp,Vq,Vr,Vs,Vt,Vu,Vv,Vw,Vx,Vy,Vz,V0,V1,V2,V3,V4,V5,V6,V7,V8,V9,Wa,Wb,Wc,Wd,We,Wf,Wg,Wh,Wi,Wj,Wk,Wl,Wm,Wn,Wo,Wp,Wq,Wr,Ws,Wt,Wu,Wv,Ww,Wx,Wy,Wz,W0,W1,W2,W3,W4,W5,W6,W7,W8,W9,Ha,Hb,Hc,Hd,He,Hf,Hg,Hh,Hi,Hj,Hk,Hl,Hm,Hn,Ho,Hp,Hq,Hr,Hs,Ht,Hu,Hv,Hw,Hx,Hy,Hz,H0,H1,H2,H3,H4,H5,H6,H7,H8,H9,Na,Nb,Nc,Nd,Ne,Nf,Ng,Nh,Ni,Nj,Nk,Nl,Nm,Nn,No,Np,Nq,Nr,Ns,Nt,Nu,Nv,Nw,Nx,Ny,Nz,N0,N1,N2,N3,N4,N5,N6,N7,N8,N9,Ba,Bb,Bc,Bd,Be,Bf,Bg,Bh,Bi,c_law14_fine_R0.eq_1,c_law14_fine_R1.eq_1,c_law14_fine_R2.eq_1,c_law14_fine_R3.eq_1,c_law14_fine.eq_1,hm,hp,h1,h2,hq])
theorem eraseT_len (l : List Cl) (s e b f k : Int) (hl : l.length ≤ 1000) : (eraseT l s e b f k).length ≤ 1000 := by
  unfold eraseT
  split
  · split
    · exact hl
    · simp [torn_len]; omega
  · simp
theorem insertT_len (l : List Cl) (s e b f k : Int) (hl : l.length ≤ 1000) : (insertT l s e b f k).length ≤ 1000 := by
  unfold insertT
  split
  · split
    · exact hl
    · simp [torn_len]; omega
  · simp
theorem deleteT_len (l : List Cl) (s e b f k : Int) (hl : l.length ≤ 1000) : (deleteT l s e b f k).length ≤ 1000 := by
  unfold deleteT
  split
  · split
    · exact hl
    · simp [torn_len]; omega
  · simp
theorem fitT_len (l : List Cl) (n : Int) (hl : l.length ≤ 1000) : (fitT l n).length ≤ 2000 := by
  unfold fitT
  split
  · simp [torn_len]; omega
  · simp
theorem lineEdits_P (l : List Cl) (f : Bool) (a n b fo k : Int) : aP G13 FT n_law14_LineEdits [.data false 7 (cells l) f, .int .i64 a, .int .i64 n, .agg [.int .i64 b, .int .i64 fo, .int .i64 k]] = some (.bool true) := by
  have hK := known14_P
  unfold aP
  rw [run_law14_LineEdits]
  by_cases h1 : 300 < (l.length : Int)
  · (sym => simp [Qa,Qb,Qc,Qd,Qe,Qf,Qg,Qh,Qi,Qj,Qk,Ql,Qm,Qn,Qo,Qp,Qq,Qr,Qs,Qt,Qu,Qv,Qw,Qx,Qy,Qz,Q0,Q1,Q2,Q3,Q4,Q5,Q6,Q7,Q8,Q9,Xa,Xb,Xc,Xd,Xe,Xf,Xg,Xh,Xi,Xj,Xk,Xl,Xm,Xn,Xo,Xp,Xq,Xr,Xs,Xt,Xu,Xv,Xw,Xx,Xy,Xz,X0,X1,X2,X3,X4,X5,X6,X7,X8,X9,Ya,Yb,Yc,Yd,Ye,Yf,Yg,Yh,Yi,Yj,Yk,Yl,Ym,Yn,Yo,Yp,Yq,Yr,Ys,Yt,Yu,Yv,Yw,Yx,Yy,Yz,Y0,Y1,Y2,Y3,Y4,Y5,Y6,Y7,Y8,Y9,Za,Zb,Zc,Zd,Ze,Zf,Zg,Zh,Zi,Zj,Zk,Zl,Zm,Zn,Zo,Zp,Zq,Zr,Zs,Zt,Zu,Zv,Zw,Zx,Zy,Zz,Z0,Z1,Z2,Z3,Z4,Z5,Z6,Z7,Z8,Z9,Ja,Jb,Jc,Jd,Je,Jf,Jg,Jh,Ji,Jj,Jk,Jl,Jm,Jn,Jo,Jp,Jq,Jr,Js,Jt,Ju,Jv,Jw,Jx,Jy,Jz,J0,J1,J2,J3,J4,J5,J6,J7,J8,J9,Ka,Kb,Kc,Kd,Ke,Kf,Kg,Kh,Ki,Kj,Kk,Kl,Km,Kn,Ko,Kp,Kq,Kr,Ks,Kt,Ku,Kv,Kw,Kx,Ky,Kz,K0,K1,K2,K3,K4,K5,K6,K7,K8,K9,Ua,Ub,Uc,Ud,Ue,Uf,Ug,Uh,Ui,Uj,Uk,Ul,Um,Un,Uo,Up,Uq,Ur,Us,Ut,Uu,Uv,Uw,Ux,Uy,Uz,U0,U1,U2,U3,U4,U5,U6,U7,U8,U9,Va,Vb,Vc,Vd,Ve,Vf,Vg,Vh,Vi,Vj,Vk,Vl,Vm,Vn,Vo,Vp,Vq,Vr,Vs,Vt,Vu,Vv,Vw,Vx,Vy,Vz,V0,V1,V2,V3,V4,V5,V6,V7,V8,V9,Wa,Wb,Wc,Wd,We,Wf,Wg,Wh,Wi,Wj,Wk,Wl,Wm,Wn,Wo,Wp,Wq,Wr,Ws,Wt,Wu,Wv,Ww,Wx,Wy,Wz,W0,W1,W2,W3,W4,W5,W6,W7,W8,W9,Ha,Hb,Hc,Hd,He,Hf,Hg,Hh,Hi,Hj,Hk,Hl,Hm,Hn,Ho,Hp,Hq,Hr,Hs,Ht,Hu,Hv,Hw,Hx,Hy,Hz,H0,H1,H2,H3,H4,H5,H6,H7,H8,H9,Na,Nb,Nc,Nd,Ne,Nf,Ng,Nh,Ni,Nj,Nk,Nl,Nm,Nn,No,Np,Nq,Nr,Ns,Nt,Nu,Nv,Nw,Nx,Ny,Nz,N0,N1,N2,N3,N4,N5,N6,N7,N8,N9,Ba,Bb,Bc,Bd,Be,Bf,Bg,Bh,Bi,c_law14_LineEdits_R0.eq_1,c_law14_LineEdits_R1.eq_1,c_law14_LineEdits_R2.eq_1,c_law14_LineEdits_R3.eq_1,c_law14_LineEdits_R4.eq_1,c_law14_LineEdits_R5.eq_1,c_law14_LineEdits_R6.eq_1,c_law14_LineEdits_R7.eq_1,c_law14_LineEdits_R8.eq_1,c_law14_LineEdits_R9.eq_1,c_law14_LineEdits_R10.eq_1,c_law14_LineEdits_R11.eq_1,c_law14_LineEdits_R12.eq_1,c_law14_LineEdits_R13.eq_1,c_law14_LineEdits_R14.eq_1,c_law14_LineEdits.eq_1,hK,cells_len,h1])
  have p1 := fun b' f' => erase_P G13 G13_0 l b' f' a n b fo k (by omega)
  have p2 := fun b' f' => insert_P G13 G13_0 l b' f' a n b fo k (by omega)
  have p3 := fun b' f' => delete_P G13 G13_0 l b' f' a n b fo k (by omega)
  have p4 := fun b' f' => fit_P G13 G13_0 l b' f' n (by omega)
  have r1 := eraseR_P G13 l f a n b fo k (by omega)
  have r2 := insertR_P G13 l f a n b fo k (by omega)
  have r3 := deleteR_P G13 l f a n b fo k (by omega)
  have nT : ∀ x y : Bool, (x = false ∨ y = false) → (x && y) = false := fun x y h => by cases x <;> cases y <;> simp_all
  have f1 := fun b1 b2 f1 f2 => fine14_P l f b fo k (eraseT l a n b fo k) (eraseR l a n k) f1 f2 b1 b2 (by omega) (Nat.le_trans (eraseT_len l a n b fo k (by omega)) (by omega)) (fun h => by unfold eraseT; rw [nT _ _ h]; rfl) (fun h h' => erase_eq h h' a n)
  have f2 := fun b1 b2 f1 f2 => fine14_P l f b fo k (insertT l a n b fo k) (insertR l a n k) f1 f2 b1 b2 (by omega) (Nat.le_trans (insertT_len l a n b fo k (by omega)) (by omega)) (fun h => by unfold insertT; rw [nT _ _ h]; rfl) (fun h h' => insert_eq h h' a n)
  have f3 := fun b1 b2 f1 f2 => fine14_P l f b fo k (deleteT l a n b fo k) (deleteR l a n k) f1 f2 b1 b2 (by omega) (Nat.le_trans (deleteT_len l a n b fo k (by omega)) (by omega)) (fun h => by unfold deleteT; rw [nT _ _ h]; rfl) (fun h h' => delete_eq h h' a n)
  have hm := rmay_L G13 G13_0 l false f (by omega)
  have hs := fun b f b2 f2 => same_L G13 l l b f b2 f2 (by omega)
  have b2 : l.length * 48 ≤ 140737488355328 := by omega
  have b3 : (l.length + 1) * 48 ≤ 140737488355328 := by omega
  have hw := wrap_nat (n := l.length) (by omega)
  have z1 : [AV.int .i32 122, .int .i32 0, .int .i32 0, .int .i64 0, .int .i64 0, .int .i64 0, .int .i64 0] = cellC ⟨122, 0, 0, 0, ⟨0, 0, 0⟩⟩ := rfl
  have t1 : List.take l.length (l ++ [(⟨122, 0, 0, 0, ⟨0, 0, 0⟩⟩ : Cl)]) = l := by simp
  have t2 : List.take l.length l = l := List.take_of_length_le (Nat.le_refl _)
  have g1 := cells_get (l := l ++ [(⟨122, 0, 0, 0, ⟨0, 0, 0⟩⟩ : Cl)]) (i := l.length) (by simp)
  have g2 : at' (l ++ [(⟨122, 0, 0, 0, ⟨0, 0, 0⟩⟩ : Cl)]) l.length = ⟨122, 0, 0, 0, ⟨0, 0, 0⟩⟩ := by rw [at_app, if_neg (by omega), Nat.sub_self]; rfl
  rw [g2] at g1
  have le1 : l.length ≤ l.length + 1 := Nat.le_succ _
  have le2 : l.length < l.length + 1 := Nat.lt_succ_self _
  have q9 : (l.length : Int) < ((l.length + 1 : Nat) : Int) := by omega
  have hm' := fun b' f' => rmay_L G13 G13_0 l b' f' (by omega)
  by_cases h2 : n < 0
  · have e : fitT l n = [] := if_neg (by omega)
    (sym => simp [Qa,Qb,Qc,Qd,Qe,Qf,Qg,Qh,Qi,Qj,Qk,Ql,Qm,Qn,Qo,Qp,Qq,Qr,Qs,Qt,Qu,Qv,Qw,Qx,Qy,Qz,Q0,Q1,Q2,Q3,Q4,Q5,Q6,Q7,Q8,Q9,Xa,Xb,Xc,Xd,Xe,Xf,Xg,Xh,Xi,Xj,Xk,Xl,Xm,Xn,Xo,Xp,Xq,Xr,Xs,Xt,Xu,Xv,Xw,Xx,Xy,Xz,X0,X1,X2,X3,X4,X5,X6,X7,X8,X9,Ya,Yb,Yc,Yd,Ye,Yf,Yg,Yh,Yi,Yj,Yk,Yl,Ym,Yn,Yo,Yp,Yq,Yr,Ys,Yt,Yu,Yv,Yw,Yx,Yy,Yz,Y0,Y1,Y2,Y3,Y4,Y5,Y6,Y7,Y8,Y9,Za,Zb,Zc,Zd,Ze,Zf,Zg,Zh,Zi,Zj,Zk,Zl,Zm,Zn,Zo,Zp,Zq,Zr,Zs,Zt,Zu,Zv,Zw,Zx,Zy,Zz,Z0,Z1,Z2,Z3,Z4,Z5,Z6,Z7,Z8,Z9,Ja,Jb,Jc,Jd,Je,Jf,Jg,Jh,Ji,Jj,Jk,Jl,Jm,Jn,Jo,Jp,Jq,Jr,Js,Jt,Ju,Jv,Jw,Jx,Jy,Jz,J0,J1,J2,J3,J4,J5,J6,J7,J8,J9,Ka,Kb,Kc,Kd,Ke,Kf,Kg,Kh,Ki,Kj,Kk,Kl,Km,Kn,Ko,Kp,Kq,Kr,Ks,Kt,Ku,Kv,Kw,Kx,Ky,Kz,K0,K1,K2,K3,K4,K5,K6,K7,K8,K9,Ua,Ub,Uc,Ud,Ue,Uf,Ug,Uh,Ui,Uj,Uk,Ul,Um,Un,Uo,Up,Uq,Ur,Us,Ut,Uu,Uv,Uw,Ux,Uy,Uz,U0,U1,U2,U3,U4,U5,U6,U7,U8,U9,Va,Vb,Vc,Vd,Ve,Vf,Vg,Vh,Vi,Vj,Vk,Vl,Vm,Vn,Vo,Vp,Vq,Vr,Vs,Vt,Vu,Vv,Vw,Vx,Vy,Vz,V0,V1,V2,V3,V4,V5,V6,V7,V8,V9,Wa,Wb,Wc,Wd,We,Wf,Wg,Wh,Wi,Wj,Wk,Wl,Wm,Wn,Wo,Wp,Wq,Wr,Ws,Wt,Wu,Wv,Ww,Wx,Wy,Wz,W0,W1,W2,W3,W4,W5,W6,W7,W8,W9,Ha,Hb,Hc,Hd,He,Hf,Hg,Hh,Hi,Hj,Hk,Hl,Hm,Hn,Ho,Hp,Hq,Hr,Hs,Ht,Hu,Hv,Hw,Hx,Hy,Hz,H0,H1,H2,H3,H4,H5,H6,H7,H8,H9,Na,Nb,Nc,Nd,Ne,Nf,Ng,Nh,Ni,Nj,Nk,Nl,Nm,Nn,No,Np,Nq,Nr,Ns,Nt,Nu,Nv,Nw,Nx,Ny,Nz,N0,N1,N2,N3,N4,N5,N6,N7,N8,N9,Ba,Bb,Bc,Bd,Be,Bf,Bg,Bh,Bi,c_law14_LineEdits_R0.eq_1,c_law14_LineEdits_R1.eq_1,c_law14_LineEdits_R2.eq_1,c_law14_LineEdits_R3.eq_1,c_law14_LineEdits_R4.eq_1,c_law14_LineEdits_R5.eq_1,c_law14_LineEdits_R6.eq_1,c_law14_LineEdits_R7.eq_1,c_law14_LineEdits_R8.eq_1,c_law14_LineEdits_R9.eq_1,c_law14_LineEdits_R10.eq_1,c_law14_LineEdits_R11.eq_1,c_law14_LineEdits_R12.eq_1,c_law14_LineEdits_R13.eq_1,c_law14_LineEdits_R14.eq_1,c_law14_LineEdits.eq_1,hK,cells_len,h1,h2,e,p1,p2,p3,p4,r1,r2,r3,f1,f2,f3,hs,b2,b3,hw,le1,le2,q9,z1,t1,t2,g1,cells_nil,cells_snoc,cells_take,cL,cT,cS,cV,cI,cE,cD7,List.length_append])
  by_cases h3 : 1000 < n
  · have e : fitT l n = [] := if_neg (by omega)
    (sym => simp [Qa,Qb,Qc,Qd,Qe,Qf,Qg,Qh,Qi,Qj,Qk,Ql,Qm,Qn,Qo,Qp,Qq,Qr,Qs,Qt,Qu,Qv,Qw,Qx,Qy,Qz,Q0,Q1,Q2,Q3,Q4,Q5,Q6,Q7,Q8,Q9,Xa,Xb,Xc,Xd,Xe,Xf,Xg,Xh,Xi,Xj,Xk,Xl,Xm,Xn,Xo,Xp,Xq,Xr,Xs,Xt,Xu,Xv,Xw,Xx,Xy,Xz,X0,X1,X2,X3,X4,X5,X6,X7,X8,X9,Ya,Yb,Yc,Yd,Ye,Yf,Yg,Yh,Yi,Yj,Yk,Yl,Ym,Yn,Yo,Yp,Yq,Yr,Ys,Yt,Yu,Yv,Yw,Yx,Yy,Yz,Y0,Y1,Y2,Y3,Y4,Y5,Y6,Y7,Y8,Y9,Za,Zb,Zc,Zd,Ze,Zf,Zg,Zh,Zi,Zj,Zk,Zl,Zm,Zn,Zo,Zp,Zq,Zr,Zs,Zt,Zu,Zv,Zw,Zx,Zy,Zz,Z0,Z1,Z2,Z3,Z4,Z5,Z6,Z7,Z8,Z9,Ja,Jb,Jc,Jd,Je,Jf,Jg,Jh,Ji,Jj,Jk,Jl,Jm,Jn,Jo,Jp,Jq,Jr,Js,Jt,Ju,Jv,Jw,Jx,Jy,Jz,J0,J1,J2,J3,J4,J5,J6,J7,J8,J9,Ka,Kb,Kc,Kd,Ke,Kf,Kg,Kh,Ki,Kj,Kk,Kl,Km,Kn,Ko,Kp,Kq,Kr,Ks,Kt,Ku,Kv,Kw,Kx,Ky,Kz,K0,K1,K2,K3,K4,K5,K6,K7,K8,K9,Ua,Ub,Uc,Ud,Ue,Uf,Ug,Uh,Ui,Uj,Uk,Ul,Um,Un,Uo,Up,Uq,Ur,Us,Ut,Uu,Uv,Uw,Ux,Uy,Uz,U0,U1,U2,U3,U4,U5,U6,U7,U8,U9,Va,Vb,Vc,Vd,Ve,Vf,Vg,Vh,Vi,Vj,Vk,Vl,Vm,Vn,Vo,Vp,Vq,Vr,Vs,Vt,Vu,Vv,Vw,Vx,Vy,Vz,V0,V1,V2,V3,V4,V5,V6,V7,V8,V9,Wa,Wb,Wc,Wd,We,Wf,Wg,Wh,Wi,Wj,Wk,Wl,Wm,Wn,Wo,Wp,Wq,Wr,Ws,Wt,Wu,Wv,Ww,Wx,Wy,Wz,W0,W1,W2,W3,W4,W5,W6,W7,W8,W9,Ha,Hb,Hc,Hd,He,Hf,Hg,Hh,Hi,Hj,Hk,Hl,Hm,Hn,Ho,Hp,Hq,Hr,Hs,Ht,Hu,Hv,Hw,Hx,Hy,Hz,H0,H1,H2,H3,H4,H5,H6,H7,H8,H9,Na,Nb,Nc,Nd,Ne,Nf,Ng,Nh,Ni,Nj,Nk,Nl,Nm,Nn,No,Np,Nq,Nr,Ns,Nt,Nu,Nv,Nw,Nx,Ny,Nz,N0,N1,N2,N3,N4,N5,N6,N7,N8,N9,Ba,Bb,Bc,Bd,Be,Bf,Bg,Bh,Bi,c_law14_LineEdits_R0.eq_1,c_law14_LineEdits_R1.eq_1,c_law14_LineEdits_R2.eq_1,c_law14_LineEdits_R3.eq_1,c_law14_LineEdits_R4.eq_1,c_law14_LineEdits_R5.eq_1,c_law14_LineEdits_R6.eq_1,c_law14_LineEdits_R7.eq_1,c_law14_LineEdits_R8.eq_1,c_law14_LineEdits_R9.eq_1,c_law14_LineEdits_R10.eq_1,c_law14_LineEdits_R11.eq_1,c_law14_LineEdits_R12.eq_1,c_law14_LineEdits_R13.eq_1,c_law14_LineEdits_R14.eq_1,c_law14_LineEdits.eq_1,hK,cells_len,h1,h2,h3,e,p1,p2,p3,p4,r1,r2,r3,f1,f2,f3,hs,b2,b3,hw,le1,le2,q9,z1,t1,t2,g1,cells_nil,cells_snoc,cells_take,cL,cT,cS,cV,cI,cE,cD7,List.length_append])
  cases h4 : mayL l
  · have e : fitT l n = [] := if_neg (by simp [h4])
    (sym => simp [Qa,Qb,Qc,Qd,Qe,Qf,Qg,Qh,Qi,Qj,Qk,Ql,Qm,Qn,Qo,Qp,Qq,Qr,Qs,Qt,Qu,Qv,Qw,Qx,Qy,Qz,Q0,Q1,Q2,Q3,Q4,Q5,Q6,Q7,Q8,Q9,Xa,Xb,Xc,Xd,Xe,Xf,Xg,Xh,Xi,Xj,Xk,Xl,Xm,Xn,Xo,Xp,Xq,Xr,Xs,Xt,Xu,Xv,Xw,Xx,Xy,Xz,X0,X1,X2,X3,X4,X5,X6,X7,X8,X9,Ya,Yb,Yc,Yd,Ye,Yf,Yg,Yh,Yi,Yj,Yk,Yl,Ym,Yn,Yo,Yp,Yq,Yr,Ys,Yt,Yu,Yv,Yw,Yx,Yy,Yz,Y0,Y1,Y2,Y3,Y4,Y5,Y6,Y7,Y8,Y9,Za,Zb,Zc,Zd,Ze,Zf,Zg,Zh,Zi,Zj,Zk,Zl,Zm,Zn,Zo,Zp,Zq,Zr,Zs,Zt,Zu,Zv,Zw,Zx,Zy,Zz,Z0,Z1,Z2,Z3,Z4,Z5,Z6,Z7,Z8,Z9,Ja,Jb,Jc,Jd,Je,Jf,Jg,Jh,Ji,Jj,Jk,Jl,Jm,Jn,Jo,Jp,Jq,Jr,Js,Jt,Ju,Jv,Jw,Jx,Jy,Jz,J0,J1,J2,J3,J4,J5,J6,J7,J8,J9,Ka,Kb,Kc,Kd,Ke,Kf,Kg,Kh,Ki,Kj,Kk,Kl,Km,Kn,Ko,Kp,Kq,Kr,Ks,Kt,Ku,Kv,Kw,Kx,Ky,Kz,K0,K1,K2,K3,K4,K5,K6,K7,K8,K9,Ua,Ub,Uc,Ud,Ue,Uf,Ug,Uh,Ui,Uj,Uk,Ul,Um,Un,Uo,Up,Uq,Ur,Us,Ut,Uu,Uv,Uw,Ux,Uy,Uz,U0,U1,U2,U3,U4,U5,U6,U7,U8,U9,Va,Vb,Vc,Vd,Ve,Vf,Vg,Vh,Vi,Vj,Vk,Vl,Vm,Vn,Vo,Vp,Vq,Vr,Vs,Vt,Vu,Vv,Vw,Vx,Vy,Vz,V0,V1,V2,V3,V4,V5,V6,V7,V8,V9,Wa,Wb,Wc,Wd,We,Wf,Wg,Wh,Wi,Wj,Wk,Wl,Wm,Wn,Wo,Wp,Wq,Wr,Ws,Wt,Wu,Wv,Ww,Wx,Wy,Wz,W0,W1,W2,W3,W4,W5,W6,W7,W8,W9,Ha,Hb,Hc,Hd,He,Hf,Hg,Hh,Hi,Hj,Hk,Hl,Hm,Hn,Ho,Hp,Hq,Hr,Hs,Ht,Hu,Hv,Hw,Hx,Hy,Hz,H0,H1,H2,H3,H4,H5,H6,H7,H8,H9,Na,Nb,Nc,Nd,Ne,Nf,Ng,Nh,Ni,Nj,Nk,Nl,Nm,Nn,No,Np,Nq,Nr,Ns,Nt,Nu,Nv,Nw,Nx,Ny,Nz,N0,N1,N2,N3,N4,N5,N6,N7,N8,N9,Ba,Bb,Bc,Bd,Be,Bf,Bg,Bh,Bi,c_law14_LineEdits_R0.eq_1,c_law14_LineEdits_R1.eq_1,c_law14_LineEdits_R2.eq_1,c_law14_LineEdits_R3.eq_1,c_law14_LineEdits_R4.eq_1,c_law14_LineEdits_R5.eq_1,c_law14_LineEdits_R6.eq_1,c_law14_LineEdits_R7.eq_1,c_law14_LineEdits_R8.eq_1,c_law14_LineEdits_R9.eq_1,c_law14_LineEdits_R10.eq_1,c_law14_LineEdits_R11.eq_1,c_law14_LineEdits_R12.eq_1,c_law14_LineEdits_R13.eq_1,c_law14_LineEdits_R14.eq_1,c_law14_LineEdits.eq_1,hK,cells_len,h1,h2,h3,h4,e,hm',p1,p2,p3,p4,r1,r2,r3,f1,f2,f3,hs,b2,b3,hw,le1,le2,q9,z1,t1,t2,g1,cells_nil,cells_snoc,cells_take,cL,cT,cS,cV,cI,cE,cD7,List.length_append])
  · obtain ⟨m, rfl⟩ : ∃ m : Nat, n = m := ⟨n.toNat, by omega⟩
    have r4 := fitR_P G13 l f m (by omega) (by omega)
    have e := fit_eq h4 m (by omega)
    have hs2 := fun b f b2 f2 => same_L G13 (fitR l m) (fitR l m) b f b2 f2 (by rw [← e]; exact Nat.le_trans (fitT_len l m (by omega)) (by omega))
    (sym => simp [Qa,Qb,Qc,Qd,Qe,Qf,Qg,Qh,Qi,Qj,Qk,Ql,Qm,Qn,Qo,Qp,Qq,Qr,Qs,Qt,Qu,Qv,Qw,Qx,Qy,Qz,Q0,Q1,Q2,Q3,Q4,Q5,Q6,Q7,Q8,Q9,Xa,Xb,Xc,Xd,Xe,Xf,Xg,Xh,Xi,Xj,Xk,Xl,Xm,Xn,Xo,Xp,Xq,Xr,Xs,Xt,Xu,Xv,Xw,Xx,Xy,Xz,X0,X1,X2,X3,X4,X5,X6,X7,X8,X9,Ya,Yb,Yc,Yd,Ye,Yf,Yg,Yh,Yi,Yj,Yk,Yl,Ym,Yn,Yo,Yp,Yq,Yr,Ys,Yt,Yu,Yv,Yw,Yx,Yy,Yz,Y0,Y1,Y2,Y3,Y4,Y5,Y6,Y7,Y8,Y9,Za,Zb,Zc,Zd,Ze,Zf,Zg,Zh,Zi,Zj,Zk,Zl,Zm,Zn,Zo,Zp,Zq,Zr,Zs,Zt,Zu,Zv,Zw,Zx,Zy,Zz,Z0,Z1,Z2,Z3,Z4,Z5,Z6,Z7,Z8,Z9,Ja,Jb,Jc,Jd,Je,Jf,Jg,Jh,Ji,Jj,Jk,Jl,Jm,Jn,Jo,Jp,Jq,Jr,Js,Jt,Ju,Jv,Jw,Jx,Jy,Jz,J0,J1,J2,J3,J4,J5,J6,J7,J8,J9,Ka,Kb,Kc,Kd,Ke,Kf,Kg,Kh,Ki,Kj,Kk,Kl,Km,Kn,Ko,Kp,Kq,Kr,Ks,Kt,Ku,Kv,Kw,Kx,Ky,Kz,K0,K1,K2,K3,K4,K5,K6,K7,K8,K9,Ua,Ub,Uc,Ud,Ue,Uf,Ug,Uh,Ui,Uj,Uk,Ul,Um,Un,Uo,Up,Uq,Ur,Us,Ut,Uu,Uv,Uw,Ux,Uy,Uz,U0,U1,U2,U3,U4,U5,U6,U7,U8,U9,Va,Vb,Vc,Vd,Ve,Vf,Vg,Vh,Vi,Vj,Vk,Vl,Vm,Vn,Vo,Vp,Vq,Vr,Vs,Vt,Vu,Vv,Vw,Vx,Vy,Vz,V0,V1,V2,V3,V4,V5,V6,V7,V8,V9,Wa,Wb,Wc,Wd,We,Wf,Wg,Wh,Wi,Wj,Wk,Wl,Wm,Wn,Wo,Wp,Wq,Wr,Ws,Wt,Wu,Wv,Ww,Wx,Wy,Wz,W0,W1,W2,W3,W4,W5,W6,W7,W8,W9,Ha,Hb,Hc,Hd,He,Hf,Hg,Hh,Hi,Hj,Hk,Hl,Hm,Hn,Ho,Hp,Hq,Hr,Hs,Ht,Hu,Hv,Hw,Hx,Hy,Hz,H0,H1,H2,H3,H4,H5,H6,H7,H8,H9,Na,Nb,Nc,Nd,Ne,Nf,Ng,Nh,Ni,Nj,Nk,Nl,Nm,Nn,No,Np,Nq,Nr,Ns,Nt,Nu,Nv,Nw,Nx,Ny,Nz,N0,N1,N2,N3,N4,N5,N6,N7,N8,N9,Ba,Bb,Bc,Bd,Be,Bf,Bg,Bh,Bi,c_law14_LineEdits_R0.eq_1,c_law14_LineEdits_R1.eq_1,c_law14_LineEdits_R2.eq_1,c_law14_LineEdits_R3.eq_1,c_law14_LineEdits_R4.eq_1,c_law14_LineEdits_R5.eq_1,c_law14_LineEdits_R6.eq_1,c_law14_LineEdits_R7.eq_1,c_law14_LineEdits_R8.eq_1,c_law14_LineEdits_R9.eq_1,c_law14_LineEdits_R10.eq_1,c_law14_LineEdits_R11.eq_1,c_law14_LineEdits_R12.eq_1,c_law14_LineEdits_R13.eq_1,c_law14_LineEdits_R14.eq_1,c_law14_LineEdits.eq_1,hK,cells_len,h1,h2,h3,h4,e,hm',r4,hs2,p1,p2,p3,p4,r1,r2,r3,f1,f2,f3,hs,b2,b3,hw,le1,le2,q9,z1,t1,t2,g1,cells_nil,cells_snoc,cells_take,cL,cT,cS,cV,cI,cE,cD7,List.length_append])
theorem law_LineEdits (a0 a1 a2 : AV) (a3 : List AV) (h0 : HasTy (.sl [.int .i32, .int .i32, .int .i32, .int .i64, .int .i64, .int .i64, .int .i64]) a0) (h1 : HasTy (.int .i64) a1) (h2 : HasTy (.int .i64) a2) (h3 : HasTys [.int .i64, .int .i64, .int .i64] a3) : aP G13 FT n_law14_LineEdits [a0, a1, a2, .agg a3] = some (.bool true) := by
  obtain ⟨l, f, rfl, _⟩ := ty_cells h0
  obtain ⟨n, rfl, _⟩ := ty_int h1
  obtain ⟨m, rfl, _⟩ := ty_int h2
  obtain ⟨p, rfl, _⟩ := tys_pen h3
  exact lineEdits_P l f n m p.b p.f p.k
end Go.Proofs.YtfgggfejcgfneaaDoor
