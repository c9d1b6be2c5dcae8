/- Rows that go up and down, twice; GridTwice, GridBack. Conditions: none. -/
import Derived.Test.YtmmkjbcklghopaaDoorGr8
import Derived.Test.YtmmkjbcklghopaaDoorGr9
set_option linter.unusedVariables false
set_option linter.unusedSimpArgs false
set_option linter.unusedSectionVars false
set_option maxRecDepth 20000
set_option maxHeartbeats 4000000
namespace Go.Proofs.YtmmkjbcklghopaaDoor
open Go
theorem scr_bad {g : List Rw} {top bot n b f k : Int} (h : ¬ (mayG (gL g) && penB b f k) = true) : scrollT g top bot n b f k = [] := by
  unfold scrollT; rw [if_neg h]
theorem scr_len {g : List Rw} {top bot n b f k : Int} (h : (mayG (gL g) && penB b f k) = true) : (scrollT g top bot n b f k).length = g.length := by
  unfold scrollT; rw [if_pos h]; split <;> simp
theorem scr_rat {g : List Rw} {top bot n b f k : Int} (h : (mayG (gL g) && penB b f k) = true) {i : Nat} (hi : i < g.length) :
    rat (scrollT g top bot n b f k) i = if top < 0 ∨ bot < top ∨ (g.length : Int) ≤ bot then fr (rat g i) else scrC g top bot n (rat g 0).1.length k i := by
  unfold scrollT; rw [if_pos h]
  split
  · exact rat_map_fr g i hi
  · exact rat_range _ hi
theorem blanks_may {k : Int} (h : inN k 256 = true) {W : Nat} (hW : W ≤ 1000) : mayL (List.replicate W (blankC k)) = true := (mayL_iff _).2 ⟨by simp; omega, may_blanks h W⟩
theorem scr_may {g : List Rw} {top bot n b f k : Int} (h1 : mayG (gL g) = true) (h2 : penB b f k = true) : MayR (scrollT g top bot n b f k) (rat g 0).1.length := by
  have hM := (mayG_iff g).1 h1
  have hh : (mayG (gL g) && penB b f k) = true := by rw [h1, h2]; rfl
  have key : ∀ i, i < g.length → (rat (scrollT g top bot n b f k) i).1.length = (rat g 0).1.length ∧ mayL (rat (scrollT g top bot n b f k) i).1 = true := by
    intro i hi
    rw [scr_rat hh hi]
    split
    · exact ⟨hM.len i hi, hM.may i hi⟩
    · unfold scrC
      split
      · exact ⟨hM.len i hi, hM.may i hi⟩
      · split
        · exact ⟨by simp, blanks_may (penB_k h2) (by have := hM.w2; omega)⟩
        · exact ⟨hM.len _ (by omega), hM.may _ (by omega)⟩
  have hl := scr_len (top := top) (bot := bot) (n := n) hh
  exact ⟨by rw [hl]; exact hM.n1, by rw [hl]; exact hM.n2, hM.w1, hM.w2, fun i hi => (key i (by omega)).1, fun i hi => (key i (by omega)).2⟩
theorem scr_W {g : List Rw} {top bot n b f k : Int} (h1 : mayG (gL g) = true) (h2 : penB b f k = true) : (rat (scrollT g top bot n b f k) 0).1.length = (rat g 0).1.length :=
  (scr_may h1 h2).len 0 (by have := (scr_may (top := top) (bot := bot) (n := n) h1 h2).n1; omega)
theorem scr_mayG {g : List Rw} {top bot n b f k : Int} (h1 : mayG (gL g) = true) (h2 : penB b f k = true) : mayG (gL (scrollT g top bot n b f k)) = true :=
  (mayG_iff _).2 (by rw [scr_W h1 h2]; exact scr_may h1 h2)
theorem gL_ext {a b : List Rw} (hl : a.length = b.length) (h : ∀ i, i < a.length → (rat a i).1 = (rat b i).1) : gL a = gL b :=
  List.ext_getElem (by simp [gL, hl]) fun i h1 h2 => by
    have hi : i < a.length := by simpa [gL] using h1
    have := h i hi
    simpa [gL, rat, hi, ← hl] using this
theorem mayG_nil : mayG (gL []) = false := by decide
theorem scroll_twice {g : List Rw} {top bot n m b f k : Int} (hs : (0 ≤ n ∧ 0 ≤ m) ∨ (n ≤ 0 ∧ m ≤ 0)) : gL (scrollT (scrollT g top bot n b f k) top bot m b f k) = gL (scrollT g top bot (n + m) b f k) := by
  by_cases h : (mayG (gL g) && penB b f k) = true
  · have h' := h
    rw [Bool.and_eq_true] at h'
    have hM := (mayG_iff g).1 h'.1
    have h2 : (mayG (gL (scrollT g top bot n b f k)) && penB b f k) = true := by rw [scr_mayG h'.1 h'.2, h'.2]; rfl
    refine gL_ext (by rw [scr_len h2, scr_len h, scr_len h]) fun i hi => ?_
    rw [scr_len h2, scr_len h] at hi
    rw [scr_rat h2 (by rw [scr_len h]; exact hi), scr_rat (n := n + m) h hi, scr_len h, scr_W h'.1 h'.2]
    by_cases c : top < 0 ∨ bot < top ∨ (g.length : Int) ≤ bot
    · rw [if_pos c, if_pos c, scr_rat h hi, if_pos c]; rfl
    · rw [if_neg c, if_neg c]
      have e : ∀ j, j < g.length → rat (scrollT g top bot n b f k) j = scrC g top bot n (rat g 0).1.length k j := fun j hj => by rw [scr_rat h hj, if_neg c]
      unfold scrC
      by_cases k1 : (i : Int) < top ∨ bot < i
      · rw [if_pos k1, if_pos k1, e i hi]
        unfold scrC
        rw [if_pos k1]; rfl
      · rw [if_neg k1, if_neg k1]
        by_cases k2 : i + m < top ∨ bot < i + m
        · rw [if_pos k2, if_pos (by omega)]
        · rw [if_neg k2]
          show (rat _ _).1 = _
          rw [e _ (by omega)]
          unfold scrC
          rw [if_neg (by omega)]
          by_cases k3 : i + (n + m) < top ∨ bot < i + (n + m)
          · rw [if_pos (by omega), if_pos k3]
          · rw [if_neg (by omega), if_neg k3]
            congr 2
            congr 1
            omega
  · rw [scr_bad h, scr_bad h, scr_bad (by rw [mayG_nil]; simp)]
theorem scroll_back {g : List Rw} {top bot n b f k : Int} (h1 : mayG (gL g) = true) (h2 : penB b f k = true) (t0 : 0 ≤ top) (tb : top ≤ bot) (hb : bot < g.length) (n0 : 0 ≤ n) (nb : n ≤ bot - top) {i : Nat} (hi : i < g.length) :
    (rat (scrollT (scrollT g top bot n b f k) top bot (-n) b f k) i).1 = if top ≤ i ∧ i < top + n then List.replicate (rat g 0).1.length (blankC k) else (rat g i).1 := by
  have h : (mayG (gL g) && penB b f k) = true := by rw [h1, h2]; rfl
  have hh : (mayG (gL (scrollT g top bot n b f k)) && penB b f k) = true := by rw [scr_mayG h1 h2, h2]; rfl
  have c : ¬ (top < 0 ∨ bot < top ∨ (g.length : Int) ≤ bot) := by omega
  rw [scr_rat hh (by rw [scr_len h]; exact hi), scr_len h, scr_W h1 h2, if_neg c]
  have e : ∀ j, j < g.length → rat (scrollT g top bot n b f k) j = scrC g top bot n (rat g 0).1.length k j := fun j hj => by rw [scr_rat h hj, if_neg c]
  unfold scrC
  by_cases k1 : (i : Int) < top ∨ bot < i
  · rw [if_pos k1, if_neg (by omega), e i hi]
    unfold scrC
    rw [if_pos k1]; rfl
  · rw [if_neg k1]
    by_cases k2 : i + -n < top ∨ bot < i + -n
    · rw [if_pos k2, if_pos (by omega)]
    · rw [if_neg k2, if_neg (by omega)]
      show (rat _ _).1 = _
      rw [e _ (by omega)]
      unfold scrC
      rw [if_neg (by omega), if_neg (by omega)]
      show (rat g _).1 = _
      congr 2
      omega
theorem gridTwice_P (g : List Rw) (f : Bool) (top bot n m pb pf pk : Int) : aP G13 FT n_law15_GridTwice [.data false 1 (gA g) f, .int .i64 top, .int .i64 bot, .int .i64 n, .int .i64 m, .agg [.int .i64 pb, .int .i64 pf, .int .i64 pk]] = some (.bool true) := by
  have hK := known15_P
  have hgr := great_P G13 g false f
  unfold aP
  rw [run_law15_GridTwice]
  cases h1 : greatB g
  case true => (sym => simp [Qa,Qb,Qc,Qd,Qe,Qf,Qg,Qh,Qi,Qj,Qk,Ql,Qm,Qn,Qo,Qp,Qq,Qr,Qs,Qt,Qu,Qv,Qw,Qx,Qy,Qz,Q0,Q1,Q2,Q3,Q4,Q5,Q6,Q7,Q8,Q9,Xa,Xb,Xc,Xd,Xe,Xf,Xg,Xh,Xi,Xj,Xk,Xl,Xm,Xn,Xo,Xp,Xq,Xr,Xs,Xt,Xu,Xv,Xw,Xx,Xy,Xz,X0,X1,X2,X3,X4,X5,X6,X7,X8,X9,Ya,Yb,Yc,Yd,Ye,Yf,Yg,Yh,Yi,Yj,Yk,Yl,Ym,Yn,Yo,Yp,Yq,Yr,Ys,Yt,Yu,Yv,Yw,Yx,Yy,Yz,Y0,Y1,Y2,Y3,Y4,Y5,Y6,Y7,Y8,Y9,Za,Zb,Zc,Zd,Ze,Zf,Zg,Zh,Zi,Zj,Zk,Zl,Zm,Zn,Zo,Zp,Zq,Zr,Zs,Zt,Zu,Zv,Zw,Zx,Zy,Zz,Z0,Z1,Z2,Z3,Z4,Z5,Z6,Z7,Z8,Z9,Ja,Jb,Jc,Jd,Je,Jf,Jg,Jh,Ji,Jj,Jk,Jl,Jm,Jn,Jo,Jp,Jq,Jr,Js,Jt,Ju,Jv,Jw,Jx,Jy,Jz,J0,J1,J2,J3,J4,J5,J6,J7,J8,J9,Ka,Kb,Kc,Kd,Ke,Kf,Kg,Kh,Ki,Kj,Kk,Kl,Km,Kn,Ko,Kp,Kq,Kr,Ks,Kt,Ku,Kv,Kw,Kx,Ky,Kz,K0,K1,K2,K3,K4,K5,K6,K7,K8,K9,Ua,Ub,Uc,Ud,Ue,Uf,Ug,Uh,Ui,Uj,Uk,Ul,Um,Un,Uo,Up,Uq,Ur,Us,Ut,Uu,Uv,Uw,Ux,Uy,Uz,U0,U1,U2,U3,U4,U5,U6,U7,U8,U9,Va,Vb,Vc,Vd,Ve,Vf,Vg,Vh,Vi,Vj,Vk,Vl,Vm,Vn,Vo,Vp,Vq,Vr,Vs,Vt,Vu,Vv,Vw,Vx,Vy,Vz,V0,V1,V2,V3,V4,V5,V6,V7,V8,V9,Wa,Wb,Wc,Wd,We,Wf,Wg,Wh,Wi,Wj,Wk,Wl,Wm,Wn,Wo,Wp,Wq,Wr,Ws,Wt,Wu,Wv,Ww,Wx,Wy,Wz,W0,W1,W2,W3,W4,W5,W6,W7,W8,W9,Ha,Hb,Hc,Hd,He,Hf,Hg,Hh,Hi,Hj,Hk,Hl,Hm,Hn,Ho,Hp,Hq,Hr,Hs,Ht,Hu,Hv,Hw,Hx,Hy,Hz,H0,H1,H2,H3,H4,H5,H6,H7,H8,H9,Na,Nb,Nc,Nd,Ne,Nf,Ng,Nh,Ni,Nj,Nk,Nl,Nm,Nn,No,Np,Nq,Nr,Ns,Nt,Nu,Nv,Nw,Nx,Ny,Nz,N0,N1,N2,N3,N4,N5,N6,N7,N8,N9,Ba,Bb,Bc,Bd,Be,Bf,Bg,Bh,Bi,c_law15_GridTwice_R0.eq_1,c_law15_GridTwice_R1.eq_1,c_law15_GridTwice_R2.eq_1,c_law15_GridTwice_R3.eq_1,c_law15_GridTwice_R4.eq_1,c_law15_GridTwice_R5.eq_1,c_law15_GridTwice_R6.eq_1,c_law15_GridTwice.eq_1,hK,hgr,h1])
  by_cases c1 : n < -100
  · (sym => simp [Qa,Qb,Qc,Qd,Qe,Qf,Qg,Qh,Qi,Qj,Qk,Ql,Qm,Qn,Qo,Qp,Qq,Qr,Qs,Qt,Qu,Qv,Qw,Qx,Qy,Qz,Q0,Q1,Q2,Q3,Q4,Q5,Q6,Q7,Q8,Q9,Xa,Xb,Xc,Xd,Xe,Xf,Xg,Xh,Xi,Xj,Xk,Xl,Xm,Xn,Xo,Xp,Xq,Xr,Xs,Xt,Xu,Xv,Xw,Xx,Xy,Xz,X0,X1,X2,X3,X4,X5,X6,X7,X8,X9,Ya,Yb,Yc,Yd,Ye,Yf,Yg,Yh,Yi,Yj,Yk,Yl,Ym,Yn,Yo,Yp,Yq,Yr,Ys,Yt,Yu,Yv,Yw,Yx,Yy,Yz,Y0,Y1,Y2,Y3,Y4,Y5,Y6,Y7,Y8,Y9,Za,Zb,Zc,Zd,Ze,Zf,Zg,Zh,Zi,Zj,Zk,Zl,Zm,Zn,Zo,Zp,Zq,Zr,Zs,Zt,Zu,Zv,Zw,Zx,Zy,Zz,Z0,Z1,Z2,Z3,Z4,Z5,Z6,Z7,Z8,Z9,Ja,Jb,Jc,Jd,Je,Jf,Jg,Jh,Ji,Jj,Jk,Jl,Jm,Jn,Jo,Jp,Jq,Jr,Js,Jt,Ju,Jv,Jw,Jx,Jy,Jz,J0,J1,J2,J3,J4,J5,J6,J7,J8,J9,Ka,Kb,Kc,Kd,Ke,Kf,Kg,Kh,Ki,Kj,Kk,Kl,Km,Kn,Ko,Kp,Kq,Kr,Ks,Kt,Ku,Kv,Kw,Kx,Ky,Kz,K0,K1,K2,K3,K4,K5,K6,K7,K8,K9,Ua,Ub,Uc,Ud,Ue,Uf,Ug,Uh,Ui,Uj,Uk,Ul,Um,Un,Uo,Up,Uq,Ur,Us,Ut,Uu,Uv,Uw,Ux,Uy,Uz,U0,U1,U2,U3,U4,U5,U6,U7,U8,U9,Va,Vb,Vc,Vd,Ve,Vf,Vg,Vh,Vi,Vj,Vk,Vl,Vm,Vn,Vo,Vp,Vq,Vr,Vs,Vt,Vu,Vv,Vw,Vx,Vy,Vz,V0,V1,V2,V3,V4,V5,V6,V7,V8,V9,Wa,Wb,Wc,Wd,We,Wf,Wg,Wh,Wi,Wj,Wk,Wl,Wm,Wn,Wo,Wp,Wq,Wr,Ws,Wt,Wu,Wv,Ww,Wx,Wy,Wz,W0,W1,W2,W3,W4,W5,W6,W7,W8,W9,Ha,Hb,Hc,Hd,He,Hf,Hg,Hh,Hi,Hj,Hk,Hl,Hm,Hn,Ho,Hp,Hq,Hr,Hs,Ht,Hu,Hv,Hw,Hx,Hy,Hz,H0,H1,H2,H3,H4,H5,H6,H7,H8,H9,Na,Nb,Nc,Nd,Ne,Nf,Ng,Nh,Ni,Nj,Nk,Nl,Nm,Nn,No,Np,Nq,Nr,Ns,Nt,Nu,Nv,Nw,Nx,Ny,Nz,N0,N1,N2,N3,N4,N5,N6,N7,N8,N9,Ba,Bb,Bc,Bd,Be,Bf,Bg,Bh,Bi,c_law15_GridTwice_R0.eq_1,c_law15_GridTwice_R1.eq_1,c_law15_GridTwice_R2.eq_1,c_law15_GridTwice_R3.eq_1,c_law15_GridTwice_R4.eq_1,c_law15_GridTwice_R5.eq_1,c_law15_GridTwice_R6.eq_1,c_law15_GridTwice.eq_1,hK,hgr,h1,c1])
  by_cases c2 : 100 < n
  · (sym => simp [Qa,Qb,Qc,Qd,Qe,Qf,Qg,Qh,Qi,Qj,Qk,Ql,Qm,Qn,Qo,Qp,Qq,Qr,Qs,Qt,Qu,Qv,Qw,Qx,Qy,Qz,Q0,Q1,Q2,Q3,Q4,Q5,Q6,Q7,Q8,Q9,Xa,Xb,Xc,Xd,Xe,Xf,Xg,Xh,Xi,Xj,Xk,Xl,Xm,Xn,Xo,Xp,Xq,Xr,Xs,Xt,Xu,Xv,Xw,Xx,Xy,Xz,X0,X1,X2,X3,X4,X5,X6,X7,X8,X9,Ya,Yb,Yc,Yd,Ye,Yf,Yg,Yh,Yi,Yj,Yk,Yl,Ym,Yn,Yo,Yp,Yq,Yr,Ys,Yt,Yu,Yv,Yw,Yx,Yy,Yz,Y0,Y1,Y2,Y3,Y4,Y5,Y6,Y7,Y8,Y9,Za,Zb,Zc,Zd,Ze,Zf,Zg,Zh,Zi,Zj,Zk,Zl,Zm,Zn,Zo,Zp,Zq,Zr,Zs,Zt,Zu,Zv,Zw,Zx,Zy,Zz,Z0,Z1,Z2,Z3,Z4,Z5,Z6,Z7,Z8,Z9,Ja,Jb,Jc,Jd,Je,Jf,Jg,Jh,Ji,Jj,Jk,Jl,Jm,Jn,Jo,Jp,Jq,Jr,Js,Jt,Ju,Jv,Jw,Jx,Jy,Jz,J0,J1,J2,J3,J4,J5,J6,J7,J8,J9,Ka,Kb,Kc,Kd,Ke,Kf,Kg,Kh,Ki,Kj,Kk,Kl,Km,Kn,Ko,Kp,Kq,Kr,Ks,Kt,Ku,Kv,Kw,Kx,Ky,Kz,K0,K1,K2,K3,K4,K5,K6,K7,K8,K9,Ua,Ub,Uc,Ud,Ue,Uf,Ug,Uh,Ui,Uj,Uk,Ul,Um,Un,Uo,Up,Uq,Ur,Us,Ut,Uu,Uv,Uw,Ux,Uy,Uz,U0,U1,U2,U3,U4,U5,U6,U7,U8,U9,Va,Vb,Vc,Vd,Ve,Vf,Vg,Vh,Vi,Vj,Vk,Vl,Vm,Vn,Vo,Vp,Vq,Vr,Vs,Vt,Vu,Vv,Vw,Vx,Vy,Vz,V0,V1,V2,V3,V4,V5,V6,V7,V8,V9,Wa,Wb,Wc,Wd,We,Wf,Wg,Wh,Wi,Wj,Wk,Wl,Wm,Wn,Wo,Wp,Wq,Wr,Ws,Wt,Wu,Wv,Ww,Wx,Wy,Wz,W0,W1,W2,W3,W4,W5,W6,W7,W8,W9,Ha,Hb,Hc,Hd,He,Hf,Hg,Hh,Hi,Hj,Hk,Hl,Hm,Hn,Ho,Hp,Hq,Hr,Hs,Ht,Hu,Hv,Hw,Hx,Hy,Hz,H0,H1,H2,H3,H4,H5,H6,H7,H8,H9,Na,Nb,Nc,Nd,Ne,Nf,Ng,Nh,Ni,Nj,Nk,Nl,Nm,Nn,No,Np,Nq,Nr,Ns,Nt,Nu,Nv,Nw,Nx,Ny,Nz,N0,N1,N2,N3,N4,N5,N6,N7,N8,N9,Ba,Bb,Bc,Bd,Be,Bf,Bg,Bh,Bi,c_law15_GridTwice_R0.eq_1,c_law15_GridTwice_R1.eq_1,c_law15_GridTwice_R2.eq_1,c_law15_GridTwice_R3.eq_1,c_law15_GridTwice_R4.eq_1,c_law15_GridTwice_R5.eq_1,c_law15_GridTwice_R6.eq_1,c_law15_GridTwice.eq_1,hK,hgr,h1,c1,c2])
  by_cases c3 : m < -100
  · (sym => simp [Qa,Qb,Qc,Qd,Qe,Qf,Qg,Qh,Qi,Qj,Qk,Ql,Qm,Qn,Qo,Qp,Qq,Qr,Qs,Qt,Qu,Qv,Qw,Qx,Qy,Qz,Q0,Q1,Q2,Q3,Q4,Q5,Q6,Q7,Q8,Q9,Xa,Xb,Xc,Xd,Xe,Xf,Xg,Xh,Xi,Xj,Xk,Xl,Xm,Xn,Xo,Xp,Xq,Xr,Xs,Xt,Xu,Xv,Xw,Xx,Xy,Xz,X0,X1,X2,X3,X4,X5,X6,X7,X8,X9,Ya,Yb,Yc,Yd,Ye,Yf,Yg,Yh,Yi,Yj,Yk,Yl,Ym,Yn,Yo,Yp,Yq,Yr,Ys,Yt,Yu,Yv,Yw,Yx,Yy,Yz,Y0,Y1,Y2,Y3,Y4,Y5,Y6,Y7,Y8,Y9,Za,Zb,Zc,Zd,Ze,Zf,Zg,Zh,Zi,Zj,Zk,Zl,Zm,Zn,Zo,Zp,Zq,Zr,Zs,Zt,Zu,Zv,Zw,Zx,Zy,Zz,Z0,Z1,Z2,Z3,Z4,Z5,Z6,Z7,Z8,Z9,Ja,Jb,Jc,Jd,Je,Jf,Jg,Jh,Ji,Jj,Jk,Jl,Jm,Jn,Jo,Jp,Jq,Jr,Js,Jt,Ju,Jv,Jw,Jx,Jy,Jz,J0,J1,J2,J3,J4,J5,J6,J7,J8,J9,Ka,Kb,Kc,Kd,Ke,Kf,Kg,Kh,Ki,Kj,Kk,Kl,Km,Kn,Ko,Kp,Kq,Kr,Ks,Kt,Ku,Kv,Kw,Kx,Ky,Kz,K0,K1,K2,K3,K4,K5,K6,K7,K8,K9,Ua,Ub,Uc,Ud,Ue,Uf,Ug,Uh,Ui,Uj,Uk,Ul,Um,Un,Uo,Up,Uq,Ur,Us,Ut,Uu,Uv,Uw,Ux,Uy,Uz,U0,U1,U2,U3,U4,U5,U6,U7,U8,U9,Va,Vb,Vc,Vd,Ve,Vf,Vg,Vh,Vi,Vj,Vk,Vl,Vm,Vn,Vo,Vp,Vq,Vr,Vs,Vt,Vu,Vv,Vw,Vx,Vy,Vz,V0,V1,V2,V3,V4,V5,V6,V7,V8,V9,Wa,Wb,Wc,Wd,We,Wf,Wg,Wh,Wi,Wj,Wk,Wl,Wm,Wn,Wo,Wp,Wq,Wr,Ws,Wt,Wu,Wv,Ww,Wx,Wy,Wz,W0,W1,W2,W3,W4,W5,W6,W7,W8,W9,Ha,Hb,Hc,Hd,He,Hf,Hg,Hh,Hi,Hj,Hk,Hl,Hm,Hn,Ho,Hp,Hq,Hr,Hs,Ht,Hu,Hv,Hw,Hx,Hy,Hz,H0,H1,H2,H3,H4,H5,H6,H7,H8,H9,Na,Nb,Nc,Nd,Ne,Nf,Ng,Nh,Ni,Nj,Nk,Nl,Nm,Nn,No,Np,Nq,Nr,Ns,Nt,Nu,Nv,Nw,Nx,Ny,Nz,N0,N1,N2,N3,N4,N5,N6,N7,N8,N9,Ba,Bb,Bc,Bd,Be,Bf,Bg,Bh,Bi,c_law15_GridTwice_R0.eq_1,c_law15_GridTwice_R1.eq_1,c_law15_GridTwice_R2.eq_1,c_law15_GridTwice_R3.eq_1,c_law15_GridTwice_R4.eq_1,c_law15_GridTwice_R5.eq_1,c_law15_GridTwice_R6.eq_1,c_law15_GridTwice.eq_1,hK,hgr,h1,c1,c2,c3])
  by_cases c4 : 100 < m
  · (sym => simp [Qa,Qb,Qc,Qd,Qe,Qf,Qg,Qh,Qi,Qj,Qk,Ql,Qm,Qn,Qo,Qp,Qq,Qr,Qs,Qt,Qu,Qv,Qw,Qx,Qy,Qz,Q0,Q1,Q2,Q3,Q4,Q5,Q6,Q7,Q8,Q9,Xa,Xb,Xc,Xd,Xe,Xf,Xg,Xh,Xi,Xj,Xk,Xl,Xm,Xn,Xo,Xp,Xq,Xr,Xs,Xt,Xu,Xv,Xw,Xx,Xy,Xz,X0,X1,X2,X3,X4,X5,X6,X7,X8,X9,Ya,Yb,Yc,Yd,Ye,Yf,Yg,Yh,Yi,Yj,Yk,Yl,Ym,Yn,Yo,Yp,Yq,Yr,Ys,Yt,Yu,Yv,Yw,Yx,Yy,Yz,Y0,Y1,Y2,Y3,Y4,Y5,Y6,Y7,Y8,Y9,Za,Zb,Zc,Zd,Ze,Zf,Zg,Zh,Zi,Zj,Zk,Zl,Zm,Zn,Zo,Zp,Zq,Zr,Zs,Zt,Zu,Zv,Zw,Zx,Zy,Zz,Z0,Z1,Z2,Z3,Z4,Z5,Z6,Z7,Z8,Z9,Ja,Jb,Jc,Jd,Je,Jf,Jg,Jh,Ji,Jj,Jk,Jl,Jm,Jn,Jo,Jp,Jq,Jr,Js,Jt,Ju,Jv,Jw,Jx,Jy,Jz,J0,J1,J2,J3,J4,J5,J6,J7,J8,J9,Ka,Kb,Kc,Kd,Ke,Kf,Kg,Kh,Ki,Kj,Kk,Kl,Km,Kn,Ko,Kp,Kq,Kr,Ks,Kt,Ku,Kv,Kw,Kx,Ky,Kz,K0,K1,K2,K3,K4,K5,K6,K7,K8,K9,Ua,Ub,Uc,Ud,Ue,Uf,Ug,Uh,Ui,Uj,Uk,Ul,Um,Un,Uo,Up,Uq,Ur,Us,Ut,Uu,Uv,Uw,Ux,Uy,Uz,U0,U1,U2,U3,U4,U5,U6,U7,U8,U9,Va,Vb,Vc,Vd,Ve,Vf,Vg,Vh,Vi,Vj,Vk,Vl,Vm,Vn,Vo,Vp,Vq,Vr,Vs,Vt,Vu,Vv,Vw,Vx,Vy,Vz,V0,V1,V2,V3,V4,V5,V6,V7,V8,V9,Wa,Wb,Wc,Wd,We,Wf,Wg,Wh,Wi,Wj,Wk,Wl,Wm,Wn,Wo,Wp,Wq,Wr,Ws,Wt,Wu,Wv,Ww,Wx,Wy,Wz,W0,W1,W2,W3,W4,W5,W6,W7,W8,W9,Ha,Hb,Hc,Hd,He,Hf,Hg,Hh,Hi,Hj,Hk,Hl,Hm,Hn,Ho,Hp,Hq,Hr,Hs,Ht,Hu,Hv,Hw,Hx,Hy,Hz,H0,H1,H2,H3,H4,H5,H6,H7,H8,H9,Na,Nb,Nc,Nd,Ne,Nf,Ng,Nh,Ni,Nj,Nk,Nl,Nm,Nn,No,Np,Nq,Nr,Ns,Nt,Nu,Nv,Nw,Nx,Ny,Nz,N0,N1,N2,N3,N4,N5,N6,N7,N8,N9,Ba,Bb,Bc,Bd,Be,Bf,Bg,Bh,Bi,c_law15_GridTwice_R0.eq_1,c_law15_GridTwice_R1.eq_1,c_law15_GridTwice_R2.eq_1,c_law15_GridTwice_R3.eq_1,c_law15_GridTwice_R4.eq_1,c_law15_GridTwice_R5.eq_1,c_law15_GridTwice_R6.eq_1,c_law15_GridTwice.eq_1,hK,hgr,h1,c1,c2,c3,c4])
  obtain ⟨hlo, h210, _⟩ := great_lo g h1
  have p1 := fun b f n => scroll_P G13 G13_0 g b f top bot n pb pf pk hlo
  have p2 := fun b f m => scroll_P G13 G13_0 (scrollT g top bot n pb pf pk) b f top bot m pb pf pk (scrollT_lo hlo _ _ _ _ _ _)
  have wn : IntKind.i64.wrap (n + m) = n + m := wrap_in _ (by omega) (by omega)
  have key : ((0 ≤ n ∧ 0 ≤ m) ∨ (n ≤ 0 ∧ m ≤ 0)) → ∀ b f, aP G13 FT n_grid_Same [.data b 1 [[.data false 1 (gA (scrollT (scrollT g top bot n pb pf pk) top bot m pb pf pk)) false], [.data false 1 (gA (scrollT g top bot (n + m) pb pf pk)) false]] f] = some (.bool true) := fun hs b f => by
    rw [gsm2_P G13 b f _ _ _ _ (scrollT_lo (scrollT_lo hlo _ _ _ _ _ _) _ _ _ _ _ _), scroll_twice hs]
    simp
  by_cases c5 : n < 0
  · by_cases c6 : 0 < m
    · (sym => simp [Qa,Qb,Qc,Qd,Qe,Qf,Qg,Qh,Qi,Qj,Qk,Ql,Qm,Qn,Qo,Qp,Qq,Qr,Qs,Qt,Qu,Qv,Qw,Qx,Qy,Qz,Q0,Q1,Q2,Q3,Q4,Q5,Q6,Q7,Q8,Q9,Xa,Xb,Xc,Xd,Xe,Xf,Xg,Xh,Xi,Xj,Xk,Xl,Xm,Xn,Xo,Xp,Xq,Xr,Xs,Xt,Xu,Xv,Xw,Xx,Xy,Xz,X0,X1,X2,X3,X4,X5,X6,X7,X8,X9,Ya,Yb,Yc,Yd,Ye,Yf,Yg,Yh,Yi,Yj,Yk,Yl,Ym,Yn,Yo,Yp,Yq,Yr,Ys,Yt,Yu,Yv,Yw,Yx,Yy,Yz,Y0,Y1,Y2,Y3,Y4,Y5,Y6,Y7,Y8,Y9,Za,Zb,Zc,Zd,Ze,Zf,Zg,Zh,Zi,Zj,Zk,Zl,Zm,Zn,Zo,Zp,Zq,Zr,Zs,Zt,Zu,Zv,Zw,Zx,Zy,Zz,Z0,Z1,Z2,Z3,Z4,Z5,Z6,Z7,Z8,Z9,Ja,Jb,Jc,Jd,Je,Jf,Jg,Jh,Ji,Jj,Jk,Jl,Jm,Jn,Jo,Jp,Jq,Jr,Js,Jt,Ju,Jv,Jw,Jx,Jy,Jz,J0,J1,J2,J3,J4,J5,J6,J7,J8,J9,Ka,Kb,Kc,Kd,Ke,Kf,Kg,Kh,Ki,Kj,Kk,Kl,Km,Kn,Ko,Kp,Kq,Kr,Ks,Kt,Ku,Kv,Kw,Kx,Ky,Kz,K0,K1,K2,K3,K4,K5,K6,K7,K8,K9,Ua,Ub,Uc,Ud,Ue,Uf,Ug,Uh,Ui,Uj,Uk,Ul,Um,Un,Uo,Up,Uq,Ur,Us,Ut,Uu,Uv,Uw,Ux,Uy,Uz,U0,U1,U2,U3,U4,U5,U6,U7,U8,U9,Va,Vb,Vc,Vd,Ve,Vf,Vg,Vh,Vi,Vj,Vk,Vl,Vm,Vn,Vo,Vp,Vq,Vr,Vs,Vt,Vu,Vv,Vw,Vx,Vy,Vz,V0,V1,V2,V3,V4,V5,V6,V7,V8,V9,Wa,Wb,Wc,Wd,We,Wf,Wg,Wh,Wi,Wj,Wk,Wl,Wm,Wn,Wo,Wp,Wq,Wr,Ws,Wt,Wu,Wv,Ww,Wx,Wy,Wz,W0,W1,W2,W3,W4,W5,W6,W7,W8,W9,Ha,Hb,Hc,Hd,He,Hf,Hg,Hh,Hi,Hj,Hk,Hl,Hm,Hn,Ho,Hp,Hq,Hr,Hs,Ht,Hu,Hv,Hw,Hx,Hy,Hz,H0,H1,H2,H3,H4,H5,H6,H7,H8,H9,Na,Nb,Nc,Nd,Ne,Nf,Ng,Nh,Ni,Nj,Nk,Nl,Nm,Nn,No,Np,Nq,Nr,Ns,Nt,Nu,Nv,Nw,Nx,Ny,Nz,N0,N1,N2,N3,N4,N5,N6,N7,N8,N9,Ba,Bb,Bc,Bd,Be,Bf,Bg,Bh,Bi,c_law15_GridTwice_R0.eq_1,c_law15_GridTwice_R1.eq_1,c_law15_GridTwice_R2.eq_1,c_law15_GridTwice_R3.eq_1,c_law15_GridTwice_R4.eq_1,c_law15_GridTwice_R5.eq_1,c_law15_GridTwice_R6.eq_1,c_law15_GridTwice.eq_1,hK,hgr,h1,c1,c2,c3,c4,c5,c6])
    · have key := key (.inr ⟨by omega, by omega⟩)
      have c7 : ¬ 0 < n := by omega
      (sym => simp [Qa,Qb,Qc,Qd,Qe,Qf,Qg,Qh,Qi,Qj,Qk,Ql,Qm,Qn,Qo,Qp,Qq,Qr,Qs,Qt,Qu,Qv,Qw,Qx,Qy,Qz,Q0,Q1,Q2,Q3,Q4,Q5,Q6,Q7,Q8,Q9,Xa,Xb,Xc,Xd,Xe,Xf,Xg,Xh,Xi,Xj,Xk,Xl,Xm,Xn,Xo,Xp,Xq,Xr,Xs,Xt,Xu,Xv,Xw,Xx,Xy,Xz,X0,X1,X2,X3,X4,X5,X6,X7,X8,X9,Ya,Yb,Yc,Yd,Ye,Yf,Yg,Yh,Yi,Yj,Yk,Yl,Ym,Yn,Yo,Yp,Yq,Yr,Ys,Yt,Yu,Yv,Yw,Yx,Yy,Yz,Y0,Y1,Y2,Y3,Y4,Y5,Y6,Y7,Y8,Y9,Za,Zb,Zc,Zd,Ze,Zf,Zg,Zh,Zi,Zj,Zk,Zl,Zm,Zn,Zo,Zp,Zq,Zr,Zs,Zt,Zu,Zv,Zw,Zx,Zy,Zz,Z0,Z1,Z2,Z3,Z4,Z5,Z6,Z7,Z8,Z9,Ja,Jb,Jc,Jd,Je,Jf,Jg,Jh,Ji,Jj,Jk,Jl,Jm,Jn,Jo,Jp,Jq,Jr,Js,Jt,Ju,Jv,Jw,Jx,Jy,Jz,J0,J1,J2,J3,J4,J5,J6,J7,J8,J9,Ka,Kb,Kc,Kd,Ke,Kf,Kg,Kh,Ki,Kj,Kk,Kl,Km,Kn,Ko,Kp,Kq,Kr,Ks,Kt,Ku,Kv,Kw,Kx,Ky,Kz,K0,K1,K2,K3,K4,K5,K6,K7,K8,K9,Ua,Ub,Uc,Ud,Ue,Uf,Ug,Uh,Ui,Uj,Uk,Ul,Um,Un,Uo,Up,Uq,Ur,Us,Ut,Uu,Uv,Uw,Ux,Uy,Uz,U0,U1,U2,U3,U4,U5,U6,U7,U8,U9,Va,Vb,Vc,Vd,Ve,Vf,Vg,Vh,Vi,Vj,Vk,Vl,Vm,Vn,Vo,Vp,Vq,Vr,Vs,Vt,Vu,Vv,Vw,Vx,Vy,Vz,V0,V1,V2,V3,V4,V5,V6,V7,V8,V9,Wa,Wb,Wc,Wd,We,Wf,Wg,Wh,Wi,Wj,Wk,Wl,Wm,Wn,Wo,Wp,Wq,Wr,Ws,Wt,Wu,Wv,Ww,Wx,Wy,Wz,W0,W1,W2,W3,W4,W5,W6,W7,W8,W9,Ha,Hb,Hc,Hd,He,Hf,Hg,Hh,Hi,Hj,Hk,Hl,Hm,Hn,Ho,Hp,Hq,Hr,Hs,Ht,Hu,Hv,Hw,Hx,Hy,Hz,H0,H1,H2,H3,H4,H5,H6,H7,H8,H9,Na,Nb,Nc,Nd,Ne,Nf,Ng,Nh,Ni,Nj,Nk,Nl,Nm,Nn,No,Np,Nq,Nr,Ns,Nt,Nu,Nv,Nw,Nx,Ny,Nz,N0,N1,N2,N3,N4,N5,N6,N7,N8,N9,Ba,Bb,Bc,Bd,Be,Bf,Bg,Bh,Bi,c_law15_GridTwice_R0.eq_1,c_law15_GridTwice_R1.eq_1,c_law15_GridTwice_R2.eq_1,c_law15_GridTwice_R3.eq_1,c_law15_GridTwice_R4.eq_1,c_law15_GridTwice_R5.eq_1,c_law15_GridTwice_R6.eq_1,c_law15_GridTwice.eq_1,hK,hgr,h1,c1,c2,c3,c4,c5,c6,c7,p1,p2,wn,key])
  · by_cases c7 : 0 < n
    · by_cases c8 : m < 0
      · (sym => simp [Qa,Qb,Qc,Qd,Qe,Qf,Qg,Qh,Qi,Qj,Qk,Ql,Qm,Qn,Qo,Qp,Qq,Qr,Qs,Qt,Qu,Qv,Qw,Qx,Qy,Qz,Q0,Q1,Q2,Q3,Q4,Q5,Q6,Q7,Q8,Q9,Xa,Xb,Xc,Xd,Xe,Xf,Xg,Xh,Xi,Xj,Xk,Xl,Xm,Xn,Xo,Xp,Xq,Xr,Xs,Xt,Xu,Xv,Xw,Xx,Xy,Xz,X0,X1,X2,X3,X4,X5,X6,X7,X8,X9,Ya,Yb,Yc,Yd,Ye,Yf,Yg,Yh,Yi,Yj,Yk,Yl,Ym,Yn,Yo,Yp,Yq,Yr,Ys,Yt,Yu,Yv,Yw,Yx,Yy,Yz,Y0,Y1,Y2,Y3,Y4,Y5,Y6,Y7,Y8,Y9,Za,Zb,Zc,Zd,Ze,Zf,Zg,Zh,Zi,Zj,Zk,Zl,Zm,Zn,Zo,Zp,Zq,Zr,Zs,Zt,Zu,Zv,Zw,Zx,Zy,Zz,Z0,Z1,Z2,Z3,Z4,Z5,Z6,Z7,Z8,Z9,Ja,Jb,Jc,Jd,Je,Jf,Jg,Jh,Ji,Jj,Jk,Jl,Jm,Jn,Jo,Jp,Jq,Jr,Js,Jt,Ju,Jv,Jw,Jx,Jy,Jz,J0,J1,J2,J3,J4,J5,J6,J7,J8,J9,Ka,Kb,Kc,Kd,Ke,Kf,Kg,Kh,Ki,Kj,Kk,Kl,Km,Kn,Ko,Kp,Kq,Kr,Ks,Kt,Ku,Kv,Kw,Kx,Ky,Kz,K0,K1,K2,K3,K4,K5,K6,K7,K8,K9,Ua,Ub,Uc,Ud,Ue,Uf,Ug,Uh,Ui,Uj,Uk,Ul,Um,Un,Uo,Up,Uq,Ur,Us,Ut,Uu,Uv,Uw,Ux,Uy,Uz,U0,U1,U2,U3,U4,U5,U6,U7,U8,U9,Va,Vb,Vc,Vd,Ve,Vf,Vg,Vh,Vi,Vj,Vk,Vl,Vm,Vn,Vo,Vp,Vq,Vr,Vs,Vt,Vu,Vv,Vw,Vx,Vy,Vz,V0,V1,V2,V3,V4,V5,V6,V7,V8,V9,Wa,Wb,Wc,Wd,We,Wf,Wg,Wh,Wi,Wj,Wk,Wl,Wm,Wn,Wo,Wp,Wq,Wr,Ws,Wt,Wu,Wv,Ww,Wx,Wy,Wz,W0,W1,W2,W3,W4,W5,W6,W7,W8,W9,Ha,Hb,Hc,Hd,He,Hf,Hg,Hh,Hi,Hj,Hk,Hl,Hm,Hn,Ho,Hp,Hq,Hr,Hs,Ht,Hu,Hv,Hw,Hx,Hy,Hz,H0,H1,H2,H3,H4,H5,H6,H7,H8,H9,Na,Nb,Nc,Nd,Ne,Nf,Ng,Nh,Ni,Nj,Nk,Nl,Nm,Nn,No,Np,Nq,Nr,Ns,Nt,Nu,Nv,Nw,Nx,Ny,Nz,N0,N1,N2,N3,N4,N5,N6,N7,N8,N9,Ba,Bb,Bc,Bd,Be,Bf,Bg,Bh,Bi,c_law15_GridTwice_R0.eq_1,c_law15_GridTwice_R1.eq_1,c_law15_GridTwice_R2.eq_1,c_law15_GridTwice_R3.eq_1,c_law15_GridTwice_R4.eq_1,c_law15_GridTwice_R5.eq_1,c_law15_GridTwice_R6.eq_1,c_law15_GridTwice.eq_1,hK,hgr,h1,c1,c2,c3,c4,c5,c7,c8])
      · have key := key (.inl ⟨by omega, by omega⟩)
        (sym => simp [Qa,Qb,Qc,Qd,Qe,Qf,Qg,Qh,Qi,Qj,Qk,Ql,Qm,Qn,Qo,Qp,Qq,Qr,Qs,Qt,Qu,Qv,Qw,Qx,Qy,Qz,Q0,Q1,Q2,Q3,Q4,Q5,Q6,Q7,Q8,Q9,Xa,Xb,Xc,Xd,Xe,Xf,Xg,Xh,Xi,Xj,Xk,Xl,Xm,Xn,Xo,Xp,Xq,Xr,Xs,Xt,Xu,Xv,Xw,Xx,Xy,Xz,X0,X1,X2,X3,X4,X5,X6,X7,X8,X9,Ya,Yb,Yc,Yd,Ye,Yf,Yg,Yh,Yi,Yj,Yk,Yl,Ym,Yn,Yo,Yp,Yq,Yr,Ys,Yt,Yu,Yv,Yw,Yx,Yy,Yz,Y0,Y1,Y2,Y3,Y4,Y5,Y6,Y7,Y8,Y9,Za,Zb,Zc,Zd,Ze,Zf,Zg,Zh,Zi,Zj,Zk,Zl,Zm,Zn,Zo,Zp,Zq,Zr,Zs,Zt,Zu,Zv,Zw,Zx,Zy,Zz,Z0,Z1,Z2,Z3,Z4,Z5,Z6,Z7,Z8,Z9,Ja,Jb,Jc,Jd,Je,Jf,Jg,Jh,Ji,Jj,Jk,Jl,Jm,Jn,Jo,Jp,Jq,Jr,Js,Jt,Ju,Jv,Jw,Jx,Jy,Jz,J0,J1,J2,J3,J4,J5,J6,J7,J8,J9,Ka,Kb,Kc,Kd,Ke,Kf,Kg,Kh,Ki,Kj,Kk,Kl,Km,Kn,Ko,Kp,Kq,Kr,Ks,Kt,Ku,Kv,Kw,Kx,Ky,Kz,K0,K1,K2,K3,K4,K5,K6,K7,K8,K9,Ua,Ub,Uc,Ud,Ue,Uf,Ug,Uh,Ui,Uj,Uk,Ul,Um,Un,Uo,Up,Uq,Ur,Us,Ut,Uu,Uv,Uw,Ux,Uy,Uz,U0,U1,U2,U3,U4,U5,U6,U7,U8,U9,Va,Vb,Vc,Vd,Ve,Vf,Vg,Vh,Vi,Vj,Vk,Vl,Vm,Vn,Vo,Vp,Vq,Vr,Vs,Vt,Vu,Vv,Vw,Vx,Vy,Vz,V0,V1,V2,V3,V4,V5,V6,V7,V8,V9,Wa,Wb,Wc,Wd,We,Wf,Wg,Wh,Wi,Wj,Wk,Wl,Wm,Wn,Wo,Wp,Wq,Wr,Ws,Wt,Wu,Wv,Ww,Wx,Wy,Wz,W0,W1,W2,W3,W4,W5,W6,W7,W8,W9,Ha,Hb,Hc,Hd,He,Hf,Hg,Hh,Hi,Hj,Hk,Hl,Hm,Hn,Ho,Hp,Hq,Hr,Hs,Ht,Hu,Hv,Hw,Hx,Hy,Hz,H0,H1,H2,H3,H4,H5,H6,H7,H8,H9,Na,Nb,Nc,Nd,Ne,Nf,Ng,Nh,Ni,Nj,Nk,Nl,Nm,Nn,No,Np,Nq,Nr,Ns,Nt,Nu,Nv,Nw,Nx,Ny,Nz,N0,N1,N2,N3,N4,N5,N6,N7,N8,N9,Ba,Bb,Bc,Bd,Be,Bf,Bg,Bh,Bi,c_law15_GridTwice_R0.eq_1,c_law15_GridTwice_R1.eq_1,c_law15_GridTwice_R2.eq_1,c_law15_GridTwice_R3.eq_1,c_law15_GridTwice_R4.eq_1,c_law15_GridTwice_R5.eq_1,c_law15_GridTwice_R6.eq_1,c_law15_GridTwice.eq_1,hK,hgr,h1,c1,c2,c3,c4,c5,c7,c8,p1,p2,wn,key])
    · have key := key (by omega)
      (sym => simp [Qa,Qb,Qc,Qd,Qe,Qf,Qg,Qh,Qi,Qj,Qk,Ql,Qm,Qn,Qo,Qp,Qq,Qr,Qs,Qt,Qu,Qv,Qw,Qx,Qy,Qz,Q0,Q1,Q2,Q3,Q4,Q5,Q6,Q7,Q8,Q9,Xa,Xb,Xc,Xd,Xe,Xf,Xg,Xh,Xi,Xj,Xk,Xl,Xm,Xn,Xo,Xp,Xq,Xr,Xs,Xt,Xu,Xv,Xw,Xx,Xy,Xz,X0,X1,X2,X3,X4,X5,X6,X7,X8,X9,Ya,Yb,Yc,Yd,Ye,Yf,Yg,Yh,Yi,Yj,Yk,Yl,Ym,Yn,Yo,Yp,Yq,Yr,Ys,Yt,Yu,Yv,Yw,Yx,Yy,Yz,Y0,Y1,Y2,Y3,Y4,Y5,Y6,Y7,Y8,Y9,Za,Zb,Zc,Zd,Ze,Zf,Zg,Zh,Zi,Zj,Zk,Zl,Zm,Zn,Zo,Zp,Zq,Zr,Zs,Zt,Zu,Zv,Zw,Zx,Zy,Zz,Z0,Z1,Z2,Z3,Z4,Z5,Z6,Z7,Z8,Z9,Ja,Jb,Jc,Jd,Je,Jf,Jg,Jh,Ji,Jj,Jk,Jl,Jm,Jn,Jo,Jp,Jq,Jr,Js,Jt,Ju,Jv,Jw,Jx,Jy,Jz,J0,J1,J2,J3,J4,J5,J6,J7,J8,J9,Ka,Kb,Kc,Kd,Ke,Kf,Kg,Kh,Ki,Kj,Kk,Kl,Km,Kn,Ko,Kp,Kq,Kr,Ks,Kt,Ku,Kv,Kw,Kx,Ky,Kz,K0,K1,K2,K3,K4,K5,K6,K7,K8,K9,Ua,Ub,Uc,Ud,Ue,Uf,Ug,Uh,Ui,Uj,Uk,Ul,Um,Un,Uo,Up,Uq,Ur,Us,Ut,Uu,Uv,Uw,Ux,Uy,Uz,U0,U1,U2,U3,U4,U5,U6,U7,U8,U9,Va,Vb,Vc,Vd,Ve,Vf,Vg,Vh,Vi,Vj,Vk,Vl,Vm,Vn,Vo,Vp,Vq,Vr,Vs,Vt,Vu,Vv,Vw,Vx,Vy,Vz,V0,V1,V2,V3,V4,V5,V6,V7,V8,V9,Wa,Wb,Wc,Wd,We,Wf,Wg,Wh,Wi,Wj,Wk,Wl,Wm,Wn,Wo,Wp,Wq,Wr,Ws,Wt,Wu,Wv,Ww,Wx,Wy,Wz,W0,W1,W2,W3,W4,W5,W6,W7,W8,W9,Ha,Hb,Hc,Hd,He,Hf,Hg,Hh,Hi,Hj,Hk,Hl,Hm,Hn,Ho,Hp,Hq,Hr,Hs,Ht,Hu,Hv,Hw,Hx,Hy,Hz,H0,H1,H2,H3,H4,H5,H6,H7,H8,H9,Na,Nb,Nc,Nd,Ne,Nf,Ng,Nh,Ni,Nj,Nk,Nl,Nm,Nn,No,Np,Nq,Nr,Ns,Nt,Nu,Nv,Nw,Nx,Ny,Nz,N0,N1,N2,N3,N4,N5,N6,N7,N8,N9,Ba,Bb,Bc,Bd,Be,Bf,Bg,Bh,Bi,c_law15_GridTwice_R0.eq_1,c_law15_GridTwice_R1.eq_1,c_law15_GridTwice_R2.eq_1,c_law15_GridTwice_R3.eq_1,c_law15_GridTwice_R4.eq_1,c_law15_GridTwice_R5.eq_1,c_law15_GridTwice_R6.eq_1,c_law15_GridTwice.eq_1,hK,hgr,h1,c1,c2,c3,c4,c5,c7,p1,p2,wn,key])
theorem law_GridTwice (a0 a1 a2 a3 a4 : AV) (a5 : List AV) (h0 : HasTy (.sl [.sl [.int .i32, .int .i32, .int .i32, .int .i64, .int .i64, .int .i64, .int .i64]]) a0) (h1 : HasTy (.int .i64) a1) (h2 : HasTy (.int .i64) a2) (h3 : HasTy (.int .i64) a3) (h4 : HasTy (.int .i64) a4) (h5 : HasTys [.int .i64, .int .i64, .int .i64] a5) : aP G13 FT n_law15_GridTwice [a0, a1, a2, a3, a4, .agg a5] = some (.bool true) := by
  obtain ⟨g, f, rfl, _⟩ := ty_grid h0
  obtain ⟨n, rfl, _⟩ := ty_int h1
  obtain ⟨m, rfl, _⟩ := ty_int h2
  obtain ⟨k, rfl, _⟩ := ty_int h3
  obtain ⟨j, rfl, _⟩ := ty_int h4
  obtain ⟨p, rfl, _⟩ := tys_pen h5
  exact gridTwice_P g f n m k j p.b p.f p.k
end Go.Proofs.YtmmkjbcklghopaaDoor
