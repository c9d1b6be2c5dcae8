/- GridScrolls. Conditions: none. -/
import Derived.Test.YtmmkjbcklghopaaDoorGr7
import Derived.Test.YtmmkjbcklghopaaDoorGr5
set_option linter.unusedVariables false
set_option linter.unusedSimpArgs false
set_option linter.unusedSectionVars false
set_option maxRecDepth 20000
set_option maxHeartbeats 4000000
namespace Go.Proofs.YtmmkjbcklghopaaDoor
open Go
theorem gL_fr (g : List Rw) : gL (g.map fr) = gL g := by simp [gL, fr]
theorem lo_fr {g : List Rw} (h : Lo g) : Lo (g.map fr) := ⟨by simpa using h.1, fun i hi => by
  have hi : i < g.length := by simpa using hi
  rw [rat_fr g hi]; exact h.2 i hi⟩
theorem fr_fr (r : Rw) : fr (fr r) = fr r := rfl
theorem scrollT_fr {g : List Rw} (h : mayG (gL g) = true) (top bot n b f k : Int) : scrollT (g.map fr) top bot n b f k = scrollT g top bot n b f k := by
  unfold scrollT
  rw [gL_fr, List.length_map, h, Bool.true_and]
  have hM := (mayG_iff g).1 h
  have e : List.map fr (List.map fr g) = List.map fr g := by simp [fr]
  rw [e, rat_fr g (by have := hM.n1; omega)]
  by_cases hp : penB b f k = true
  · rw [if_pos hp, if_pos hp]
    by_cases c : top < 0 ∨ bot < top ∨ (g.length : Int) ≤ bot
    · rw [if_pos c, if_pos c]
    · rw [if_neg c, if_neg c]
      apply List.map_congr_left
      intro i hi
      have hi : i < g.length := by simpa using hi
      unfold scrC
      by_cases k1 : (i : Int) < top ∨ bot < i
      · rw [if_pos k1, if_pos k1, rat_map_fr g i hi]; rfl
      · rw [if_neg k1, if_neg k1]
        by_cases k2 : i + n < top ∨ bot < i + n
        · rw [if_pos k2, if_pos k2]
        · rw [if_neg k2, if_neg k2, rat_map_fr g _ (by omega)]; rfl
  · rw [if_neg hp, if_neg hp]
theorem gA_zero (g : List Rw) : (decide ((g.length : Int) = 0)) = decide (g = []) := by
  cases g with
  | nil => rfl
  | cons x g => simp; omega
theorem fine15_P (g got want : List Rw) (b f b2 f2 b3 f3 : Bool) (pb pf pk : Int) (hl : Lo g) (hl2 : Lo got) : aP G13 FT n_law15_fine [.data b 1 (gA g) f, .agg [.int .i64 pb, .int .i64 pf, .int .i64 pk], .data b2 1 (gA got) f2, .data b3 1 (gA want) f3] = some (.bool (if (mayG (gL g) && penB pb pf pk) = true then decide (gL got = gL want) else decide (got.length = 0))) := by
  have hm := fun b f => rmayG_P G13 G13_0 g b f hl
  have hp := pen14_P G13 pb pf pk
  have hs := fun b f b2 f2 => gsame_L G13 got want b f b2 f2 hl2
  have ez : decide ((got.length : Int) = 0) = decide (got.length = 0) := by
    by_cases h : got.length = 0 <;> simp [h]
  unfold aP
  rw [run_law15_fine]
  cases h1 : mayG (gL g)
  · (sym => simp [Qa,Qb,Qc,Qd,Qe,Qf,Qg,Qh,Qi,Qj,Qk,Ql,Qm,Qn,Qo,Qp,Qq,Qr,Qs,Qt,Qu,Qv,Qw,Qx,Qy,Qz,Q0,Q1,Q2,Q3,Q4,Q5,Q6,Q7,Q8,Q9,Xa,Xb,Xc,Xd,Xe,Xf,Xg,Xh,Xi,Xj,Xk,Xl,Xm,Xn,Xo,Xp,Xq,Xr,Xs,Xt,Xu,Xv,Xw,Xx,Xy,Xz,X0,X1,X2,X3,X4,X5,X6,X7,X8,X9,Ya,Yb,Yc,Yd,Ye,Yf,Yg,Yh,Yi,Yj,Yk,Yl,Ym,Yn,Yo,Yp,Yq,Yr,Ys,Yt,Yu,Yv,Yw,Yx,Yy,Yz,Y0,Y1,Y2,Y3,Y4,Y5,Y6,Y7,Y8,Y9,Za,Zb,Zc,Zd,Ze,Zf,Zg,Zh,Zi,Zj,Zk,Zl,Zm,Zn,Zo,Zp,Zq,Zr,Zs,Zt,Zu,Zv,Zw,Zx,Zy,Zz,Z0,Z1,Z2,Z3,Z4,Z5,Z6,Z7,Z8,Z9,Ja,Jb,Jc,Jd,Je,Jf,Jg,Jh,Ji,Jj,Jk,Jl,Jm,Jn,Jo,Jp,Jq,Jr,Js,Jt,Ju,Jv,Jw,Jx,Jy,Jz,J0,J1,J2,J3,J4,J5,J6,J7,J8,J9,Ka,Kb,Kc,Kd,Ke,Kf,Kg,Kh,Ki,Kj,Kk,Kl,Km,Kn,Ko,Kp,Kq,Kr,Ks,Kt,Ku,Kv,Kw,Kx,Ky,Kz,K0,K1,K2,K3,K4,K5,K6,K7,K8,K9,Ua,Ub,Uc,Ud,Ue,Uf,Ug,Uh,Ui,Uj,Uk,Ul,Um,Un,Uo,Up,Uq,Ur,Us,Ut,Uu,Uv,Uw,Ux,Uy,Uz,U0,U1,U2,U3,U4,U5,U6,U7,U8,U9,Va,Vb,Vc,Vd,Ve,Vf,Vg,Vh,Vi,Vj,Vk,Vl,Vm,Vn,Vo,Vp,Vq,Vr,Vs,Vt,Vu,Vv,Vw,Vx,Vy,Vz,V0,V1,V2,V3,V4,V5,V6,V7,V8,V9,Wa,Wb,Wc,Wd,We,Wf,Wg,Wh,Wi,Wj,Wk,Wl,Wm,Wn,Wo,Wp,Wq,Wr,Ws,Wt,Wu,Wv,Ww,Wx,Wy,Wz,W0,W1,W2,W3,W4,W5,W6,W7,W8,W9,Ha,Hb,Hc,Hd,He,Hf,Hg,Hh,Hi,Hj,Hk,Hl,Hm,Hn,Ho,Hp,Hq,Hr,Hs,Ht,Hu,Hv,Hw,Hx,Hy,Hz,H0,H1,H2,H3,H4,H5,H6,H7,H8,H9,Na,Nb,Nc,Nd,Ne,Nf,Ng,Nh,Ni,Nj,Nk,Nl,Nm,Nn,No,Np,Nq,Nr,Ns,Nt,Nu,Nv,Nw,Nx,Ny,Nz,N0,N1,N2,N3,N4,N5,N6,N7,N8,N9,Ba,Bb,Bc,Bd,Be,Bf,Bg,Bh,Bi,c_law15_fine_R0.eq_1,c_law15_fine_R1.eq_1,c_law15_fine_R2.eq_1,c_law15_fine_R3.eq_1,c_law15_fine.eq_1,hm,h1,gA_len,ez])
  cases h2 : penB pb pf pk
  · (sym => simp [Qa,Qb,Qc,Qd,Qe,Qf,Qg,Qh,Qi,Qj,Qk,Ql,Qm,Qn,Qo,Qp,Qq,Qr,Qs,Qt,Qu,Qv,Qw,Qx,Qy,Qz,Q0,Q1,Q2,Q3,Q4,Q5,Q6,Q7,Q8,Q9,Xa,Xb,Xc,Xd,Xe,Xf,Xg,Xh,Xi,Xj,Xk,Xl,Xm,Xn,Xo,Xp,Xq,Xr,Xs,Xt,Xu,Xv,Xw,Xx,Xy,Xz,X0,X1,X2,X3,X4,X5,X6,X7,X8,X9,Ya,Yb,Yc,Yd,Ye,Yf,Yg,Yh,Yi,Yj,Yk,Yl,Ym,Yn,Yo,Yp,Yq,Yr,Ys,Yt,Yu,Yv,Yw,Yx,Yy,Yz,Y0,Y1,Y2,Y3,Y4,Y5,Y6,Y7,Y8,Y9,Za,Zb,Zc,Zd,Ze,Zf,Zg,Zh,Zi,Zj,Zk,Zl,Zm,Zn,Zo,Zp,Zq,Zr,Zs,Zt,Zu,Zv,Zw,Zx,Zy,Zz,Z0,Z1,Z2,Z3,Z4,Z5,Z6,Z7,Z8,Z9,Ja,Jb,Jc,Jd,Je,Jf,Jg,Jh,Ji,Jj,Jk,Jl,Jm,Jn,Jo,Jp,Jq,Jr,Js,Jt,Ju,Jv,Jw,Jx,Jy,Jz,J0,J1,J2,J3,J4,J5,J6,J7,J8,J9,Ka,Kb,Kc,Kd,Ke,Kf,Kg,Kh,Ki,Kj,Kk,Kl,Km,Kn,Ko,Kp,Kq,Kr,Ks,Kt,Ku,Kv,Kw,Kx,Ky,Kz,K0,K1,K2,K3,K4,K5,K6,K7,K8,K9,Ua,Ub,Uc,Ud,Ue,Uf,Ug,Uh,Ui,Uj,Uk,Ul,Um,Un,Uo,Up,Uq,Ur,Us,Ut,Uu,Uv,Uw,Ux,Uy,Uz,U0,U1,U2,U3,U4,U5,U6,U7,U8,U9,Va,Vb,Vc,Vd,Ve,Vf,Vg,Vh,Vi,Vj,Vk,Vl,Vm,Vn,Vo,Vp,Vq,Vr,Vs,Vt,Vu,Vv,Vw,Vx,Vy,Vz,V0,V1,V2,V3,V4,V5,V6,V7,V8,V9,Wa,Wb,Wc,Wd,We,Wf,Wg,Wh,Wi,Wj,Wk,Wl,Wm,Wn,Wo,Wp,Wq,Wr,Ws,Wt,Wu,Wv,Ww,Wx,Wy,Wz,W0,W1,W2,W3,W4,W5,W6,W7,W8,W9,Ha,Hb,Hc,Hd,He,Hf,Hg,Hh,Hi,Hj,Hk,Hl,Hm,Hn,Ho,Hp,Hq,Hr,Hs,Ht,Hu,Hv,Hw,Hx,Hy,Hz,H0,H1,H2,H3,H4,H5,H6,H7,H8,H9,Na,Nb,Nc,Nd,Ne,Nf,Ng,Nh,Ni,Nj,Nk,Nl,Nm,Nn,No,Np,Nq,Nr,Ns,Nt,Nu,Nv,Nw,Nx,Ny,Nz,N0,N1,N2,N3,N4,N5,N6,N7,N8,N9,Ba,Bb,Bc,Bd,Be,Bf,Bg,Bh,Bi,c_law15_fine_R0.eq_1,c_law15_fine_R1.eq_1,c_law15_fine_R2.eq_1,c_law15_fine_R3.eq_1,c_law15_fine.eq_1,hm,h1,hp,h2,gA_len,ez])
  · (sym => simp [Qa,Qb,Qc,Qd,Qe,Qf,Qg,Qh,Qi,Qj,Qk,Ql,Qm,Qn,Qo,Qp,Qq,Qr,Qs,Qt,Qu,Qv,Qw,Qx,Qy,Qz,Q0,Q1,Q2,Q3,Q4,Q5,Q6,Q7,Q8,Q9,Xa,Xb,Xc,Xd,Xe,Xf,Xg,Xh,Xi,Xj,Xk,Xl,Xm,Xn,Xo,Xp,Xq,Xr,Xs,Xt,Xu,Xv,Xw,Xx,Xy,Xz,X0,X1,X2,X3,X4,X5,X6,X7,X8,X9,Ya,Yb,Yc,Yd,Ye,Yf,Yg,Yh,Yi,Yj,Yk,Yl,Ym,Yn,Yo,Yp,Yq,Yr,Ys,Yt,Yu,Yv,Yw,Yx,Yy,Yz,Y0,Y1,Y2,Y3,Y4,Y5,Y6,Y7,Y8,Y9,Za,Zb,Zc,Zd,Ze,Zf,Zg,Zh,Zi,Zj,Zk,Zl,Zm,Zn,Zo,Zp,Zq,Zr,Zs,Zt,Zu,Zv,Zw,Zx,Zy,Zz,Z0,Z1,Z2,Z3,Z4,Z5,Z6,Z7,Z8,Z9,Ja,Jb,Jc,Jd,Je,Jf,Jg,Jh,Ji,Jj,Jk,Jl,Jm,Jn,Jo,Jp,Jq,Jr,Js,Jt,Ju,Jv,Jw,Jx,Jy,Jz,J0,J1,J2,J3,J4,J5,J6,J7,J8,J9,Ka,Kb,Kc,Kd,Ke,Kf,Kg,Kh,Ki,Kj,Kk,Kl,Km,Kn,Ko,Kp,Kq,Kr,Ks,Kt,Ku,Kv,Kw,Kx,Ky,Kz,K0,K1,K2,K3,K4,K5,K6,K7,K8,K9,Ua,Ub,Uc,Ud,Ue,Uf,Ug,Uh,Ui,Uj,Uk,Ul,Um,Un,Uo,Up,Uq,Ur,Us,Ut,Uu,Uv,Uw,Ux,Uy,Uz,U0,U1,U2,U3,U4,U5,U6,U7,U8,U9,Va,Vb,Vc,Vd,Ve,Vf,Vg,Vh,Vi,Vj,Vk,Vl,Vm,Vn,Vo,Vp,Vq,Vr,Vs,Vt,Vu,Vv,Vw,Vx,Vy,Vz,V0,V1,V2,V3,V4,V5,V6,V7,V8,V9,Wa,Wb,Wc,Wd,We,Wf,Wg,Wh,Wi,Wj,Wk,Wl,Wm,Wn,Wo,Wp,Wq,Wr,Ws,Wt,Wu,Wv,Ww,Wx,Wy,Wz,W0,W1,W2,W3,W4,W5,W6,W7,W8,W9,Ha,Hb,Hc,Hd,He,Hf,Hg,Hh,Hi,Hj,Hk,Hl,Hm,Hn,Ho,Hp,Hq,Hr,Hs,Ht,Hu,Hv,Hw,Hx,Hy,Hz,H0,H1,H2,H3,H4,H5,H6,H7,H8,H9,Na,Nb,Nc,Nd,Ne,Nf,Ng,Nh,Ni,Nj,Nk,Nl,Nm,Nn,No,Np,Nq,Nr,Ns,Nt,Nu,Nv,Nw,Nx,Ny,Nz,N0,N1,N2,N3,N4,N5,N6,N7,N8,N9,Ba,Bb,Bc,Bd,Be,Bf,Bg,Bh,Bi,c_law15_fine_R0.eq_1,c_law15_fine_R1.eq_1,c_law15_fine_R2.eq_1,c_law15_fine_R3.eq_1,c_law15_fine.eq_1,hm,h1,hp,h2,hs])
theorem scrollT_lo {g : List Rw} (hl : Lo g) (top bot n b f k : Int) : Lo (scrollT g top bot n b f k) := by
  unfold scrollT
  split
  · rename_i h
    rw [Bool.and_eq_true] at h
    have hM := (mayG_iff g).1 h.1
    split
    · exact lo_fr hl
    · refine ⟨by simpa using hl.1, fun i hi => ?_⟩
      have hi : i < g.length := by simpa using hi
      rw [rat_range _ hi]
      unfold scrC
      split
      · exact hl.2 i hi
      · split
        · simp; have := hM.w2; omega
        · exact hl.2 _ (by omega)
  · exact ⟨by simp, fun i hi => by simp at hi⟩
theorem gridScrolls_P (g : List Rw) (f : Bool) (top bot n pb pf pk : Int) : aP G13 FT n_law15_GridScrolls [.data false 1 (gA g) f, .int .i64 top, .int .i64 bot, .int .i64 n, .agg [.int .i64 pb, .int .i64 pf, .int .i64 pk]] = some (.bool true) := by
  have hK := known15_P
  have hgr := great_P G13 g false f
  unfold aP
  rw [run_law15_GridScrolls]
  cases h1 : greatB g
  case true => (sym => simp [Qa,Qb,Qc,Qd,Qe,Qf,Qg,Qh,Qi,Qj,Qk,Ql,Qm,Qn,Qo,Qp,Qq,Qr,Qs,Qt,Qu,Qv,Qw,Qx,Qy,Qz,Q0,Q1,Q2,Q3,Q4,Q5,Q6,Q7,Q8,Q9,Xa,Xb,Xc,Xd,Xe,Xf,Xg,Xh,Xi,Xj,Xk,Xl,Xm,Xn,Xo,Xp,Xq,Xr,Xs,Xt,Xu,Xv,Xw,Xx,Xy,Xz,X0,X1,X2,X3,X4,X5,X6,X7,X8,X9,Ya,Yb,Yc,Yd,Ye,Yf,Yg,Yh,Yi,Yj,Yk,Yl,Ym,Yn,Yo,Yp,Yq,Yr,Ys,Yt,Yu,Yv,Yw,Yx,Yy,Yz,Y0,Y1,Y2,Y3,Y4,Y5,Y6,Y7,Y8,Y9,Za,Zb,Zc,Zd,Ze,Zf,Zg,Zh,Zi,Zj,Zk,Zl,Zm,Zn,Zo,Zp,Zq,Zr,Zs,Zt,Zu,Zv,Zw,Zx,Zy,Zz,Z0,Z1,Z2,Z3,Z4,Z5,Z6,Z7,Z8,Z9,Ja,Jb,Jc,Jd,Je,Jf,Jg,Jh,Ji,Jj,Jk,Jl,Jm,Jn,Jo,Jp,Jq,Jr,Js,Jt,Ju,Jv,Jw,Jx,Jy,Jz,J0,J1,J2,J3,J4,J5,J6,J7,J8,J9,Ka,Kb,Kc,Kd,Ke,Kf,Kg,Kh,Ki,Kj,Kk,Kl,Km,Kn,Ko,Kp,Kq,Kr,Ks,Kt,Ku,Kv,Kw,Kx,Ky,Kz,K0,K1,K2,K3,K4,K5,K6,K7,K8,K9,Ua,Ub,Uc,Ud,Ue,Uf,Ug,Uh,Ui,Uj,Uk,Ul,Um,Un,Uo,Up,Uq,Ur,Us,Ut,Uu,Uv,Uw,Ux,Uy,Uz,U0,U1,U2,U3,U4,U5,U6,U7,U8,U9,Va,Vb,Vc,Vd,Ve,Vf,Vg,Vh,Vi,Vj,Vk,Vl,Vm,Vn,Vo,Vp,Vq,Vr,Vs,Vt,Vu,Vv,Vw,Vx,Vy,Vz,V0,V1,V2,V3,V4,V5,V6,V7,V8,V9,Wa,Wb,Wc,Wd,We,Wf,Wg,Wh,Wi,Wj,Wk,Wl,Wm,Wn,Wo,Wp,Wq,Wr,Ws,Wt,Wu,Wv,Ww,Wx,Wy,Wz,W0,W1,W2,W3,W4,W5,W6,W7,W8,W9,Ha,Hb,Hc,Hd,He,Hf,Hg,Hh,Hi,Hj,Hk,Hl,Hm,Hn,Ho,Hp,Hq,Hr,Hs,Ht,Hu,Hv,Hw,Hx,Hy,Hz,H0,H1,H2,H3,H4,H5,H6,H7,H8,H9,Na,Nb,Nc,Nd,Ne,Nf,Ng,Nh,Ni,Nj,Nk,Nl,Nm,Nn,No,Np,Nq,Nr,Ns,Nt,Nu,Nv,Nw,Nx,Ny,Nz,N0,N1,N2,N3,N4,N5,N6,N7,N8,N9,Ba,Bb,Bc,Bd,Be,Bf,Bg,Bh,Bi,c_law15_GridScrolls_R0.eq_1,c_law15_GridScrolls_R1.eq_1,c_law15_GridScrolls_R2.eq_1,c_law15_GridScrolls_R3.eq_1,c_law15_GridScrolls_R4.eq_1,c_law15_GridScrolls_R5.eq_1,c_law15_GridScrolls_R6.eq_1,c_law15_GridScrolls.eq_1,hK,hgr,h1])
  obtain ⟨hlo, h210, _⟩ := great_lo g h1
  have hc := rcopy_P G13 g false f hlo
  have p1 := scroll_P G13 G13_0 (g.map fr) false false top bot n pb pf pk (lo_fr hlo)
  obtain ⟨f', p2⟩ := rscroll_P G13 g f hlo h210 top bot n pb pf pk
  have p3 := fine15_P g (scrollT (g.map fr) top bot n pb pf pk) (rscrT g top bot n pk) false f false false false f' pb pf pk hlo (scrollT_lo (lo_fr hlo) top bot n pb pf pk)
  have ef : (if (mayG (gL g) && penB pb pf pk) = true then decide (gL (scrollT (g.map fr) top bot n pb pf pk) = gL (rscrT g top bot n pk)) else decide ((scrollT (g.map fr) top bot n pb pf pk).length = 0)) = true := by
    split
    · rename_i h
      rw [Bool.and_eq_true] at h
      rw [scrollT_fr h.1, scroll_same h.1 h.2]; simp
    · rename_i h
      have : scrollT (g.map fr) top bot n pb pf pk = [] := by unfold scrollT; rw [gL_fr, if_neg h]
      rw [this]; rfl
  rw [ef] at p3
  have p4 := gsame_L G13 (g.map fr) g false false false f (lo_fr hlo)
  rw [gL_fr] at p4
  have ed : decide (gL g = gL g) = true := by simp
  (sym => simp [Qa,Qb,Qc,Qd,Qe,Qf,Qg,Qh,Qi,Qj,Qk,Ql,Qm,Qn,Qo,Qp,Qq,Qr,Qs,Qt,Qu,Qv,Qw,Qx,Qy,Qz,Q0,Q1,Q2,Q3,Q4,Q5,Q6,Q7,Q8,Q9,Xa,Xb,Xc,Xd,Xe,Xf,Xg,Xh,Xi,Xj,Xk,Xl,Xm,Xn,Xo,Xp,Xq,Xr,Xs,Xt,Xu,Xv,Xw,Xx,Xy,Xz,X0,X1,X2,X3,X4,X5,X6,X7,X8,X9,Ya,Yb,Yc,Yd,Ye,Yf,Yg,Yh,Yi,Yj,Yk,Yl,Ym,Yn,Yo,Yp,Yq,Yr,Ys,Yt,Yu,Yv,Yw,Yx,Yy,Yz,Y0,Y1,Y2,Y3,Y4,Y5,Y6,Y7,Y8,Y9,Za,Zb,Zc,Zd,Ze,Zf,Zg,Zh,Zi,Zj,Zk,Zl,Zm,Zn,Zo,Zp,Zq,Zr,Zs,Zt,Zu,Zv,Zw,Zx,Zy,Zz,Z0,Z1,Z2,Z3,Z4,Z5,Z6,Z7,Z8,Z9,Ja,Jb,Jc,Jd,Je,Jf,Jg,Jh,Ji,Jj,Jk,Jl,Jm,Jn,Jo,Jp,Jq,Jr,Js,Jt,Ju,Jv,Jw,Jx,Jy,Jz,J0,J1,J2,J3,J4,J5,J6,J7,J8,J9,Ka,Kb,Kc,Kd,Ke,Kf,Kg,Kh,Ki,Kj,Kk,Kl,Km,Kn,Ko,Kp,Kq,Kr,Ks,Kt,Ku,Kv,Kw,Kx,Ky,Kz,K0,K1,K2,K3,K4,K5,K6,K7,K8,K9,Ua,Ub,Uc,Ud,Ue,Uf,Ug,Uh,Ui,Uj,Uk,Ul,Um,Un,Uo,Up,Uq,Ur,Us,Ut,Uu,Uv,Uw,Ux,Uy,Uz,U0,U1,U2,U3,U4,U5,U6,U7,U8,U9,Va,Vb,Vc,Vd,Ve,Vf,Vg,Vh,Vi,Vj,Vk,Vl,Vm,Vn,Vo,Vp,Vq,Vr,Vs,Vt,Vu,Vv,Vw,Vx,Vy,Vz,V0,V1,V2,V3,V4,V5,V6,V7,V8,V9,Wa,Wb,Wc,Wd,We,Wf,Wg,Wh,Wi,Wj,Wk,Wl,Wm,Wn,Wo,Wp,Wq,Wr,Ws,Wt,Wu,Wv,Ww,Wx,Wy,Wz,W0,W1,W2,W3,W4,W5,W6,W7,W8,W9,Ha,Hb,Hc,Hd,He,Hf,Hg,Hh,Hi,Hj,Hk,Hl,Hm,Hn,Ho,Hp,Hq,Hr,Hs,Ht,Hu,Hv,Hw,Hx,Hy,Hz,H0,H1,H2,H3,H4,H5,H6,H7,H8,H9,Na,Nb,Nc,Nd,Ne,Nf,Ng,Nh,Ni,Nj,Nk,Nl,Nm,Nn,No,Np,Nq,Nr,Ns,Nt,Nu,Nv,Nw,Nx,Ny,Nz,N0,N1,N2,N3,N4,N5,N6,N7,N8,N9,Ba,Bb,Bc,Bd,Be,Bf,Bg,Bh,Bi,c_law15_GridScrolls_R0.eq_1,c_law15_GridScrolls_R1.eq_1,c_law15_GridScrolls_R2.eq_1,c_law15_GridScrolls_R3.eq_1,c_law15_GridScrolls_R4.eq_1,c_law15_GridScrolls_R5.eq_1,c_law15_GridScrolls_R6.eq_1,c_law15_GridScrolls.eq_1,hK,hgr,h1,hc,p1,p2,p3,p4,ed])
theorem law_GridScrolls (a0 a1 a2 a3 : AV) (a4 : List AV) (h0 : HasTy (.sl [.sl [.int .i32, .int .i32, .int .i32, .int .i64, .int .i64, .int .i64, .int .i64]]) a0) (h1 : HasTy (.int .i64) a1) (h2 : HasTy (.int .i64) a2) (h3 : HasTy (.int .i64) a3) (h4 : HasTys [.int .i64, .int .i64, .int .i64] a4) : aP G13 FT n_law15_GridScrolls [a0, a1, a2, a3, .agg a4] = some (.bool true) := by
  obtain ⟨g, f, rfl, _⟩ := ty_grid h0
  obtain ⟨n, rfl, _⟩ := ty_int h1
  obtain ⟨m, rfl, _⟩ := ty_int h2
  obtain ⟨k, rfl, _⟩ := ty_int h3
  obtain ⟨p, rfl, _⟩ := tys_pen h4
  exact gridScrolls_P g f n m k p.b p.f p.k
end Go.Proofs.YtmmkjbcklghopaaDoor
