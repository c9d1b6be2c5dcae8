/- Grids of which rows went up or down. Conditions: the table lies as laid. -/
import Derived.Test.YtmmkjbcklghopaaDoorGr4
set_option linter.unusedVariables false
set_option linter.unusedSimpArgs false
set_option linter.unusedSectionVars false
set_option maxRecDepth 20000
set_option maxHeartbeats 4000000
namespace Go.Proofs.YtmmkjbcklghopaaDoor
open Go
theorem rat_set (l : List Rw) (i j : Nat) (x : Rw) : rat (l.set i x) j = if j = i ∧ i < l.length then x else rat l j := by
  unfold rat
  by_cases h : j = i
  · subst h
    by_cases h2 : j < l.length
    · simp [h2]
    · simp [h2]
  · have h' : ¬ i = j := fun e => h e.symm
    simp [h, h']
theorem rat_app (a b : List Rw) (j : Nat) : rat (a ++ b) j = if j < a.length then rat a j else rat b (j - a.length) := by
  unfold rat
  by_cases h : j < a.length
  · simp [h, List.getElem?_append_left]
  · simp [h, List.getElem?_append_right (Nat.le_of_not_lt h)]
theorem rat_take (l : List Rw) {n j : Nat} (h : j < n) : rat (l.take n) j = rat l j := by
  unfold rat
  rw [List.getD_eq_getElem?_getD, List.getD_eq_getElem?_getD, List.getElem?_take_of_lt h]
theorem rat_drop (l : List Rw) (n j : Nat) : rat (l.drop n) j = rat l (n + j) := by
  unfold rat
  rw [List.getD_eq_getElem?_getD, List.getD_eq_getElem?_getD, List.getElem?_drop]
theorem rat_ext {a b : List Rw} (hl : a.length = b.length) (h : ∀ i, i < a.length → rat a i = rat b i) : a = b :=
  List.ext_getElem hl fun i h1 h2 => by
    have := h i h1
    simpa [rat, h1, h2] using this
theorem rat_range (p : Nat → Rw) {n i : Nat} (h : i < n) : rat ((List.range n).map p) i = p i := by simp [rat, h]
/-- So many rows from one on become one. -/
def overW (E : List Rw) (s n : Nat) (r : Rw) : List Rw := E.take s ++ List.replicate n r ++ E.drop (s + n)
theorem overW_len {E : List Rw} {s n : Nat} {r : Rw} (h : s + n ≤ E.length) : (overW E s n r).length = E.length := by simp [overW]; omega
theorem overW_zero (E : List Rw) (s : Nat) (r : Rw) : overW E s 0 r = E := by simp [overW]
theorem rat_overW {E : List Rw} {s n : Nat} {r : Rw} (h : s + n ≤ E.length) (i : Nat) : rat (overW E s n r) i = if s ≤ i ∧ i < s + n then r else rat E i := by
  have hs : (List.take s E).length = s := by simp; omega
  unfold overW
  rw [rat_app, rat_app, List.length_append, hs, List.length_replicate]
  by_cases c1 : i < s
  · rw [if_pos (by omega), if_pos c1, rat_take _ c1, if_neg (by omega)]
  · by_cases c2 : i < s + n
    · rw [if_pos c2, if_neg c1, rat_rep (by omega), if_pos (by omega)]
    · rw [if_neg c2, rat_drop, if_neg (by omega)]
      congr 1; omega
theorem overW_set {E : List Rw} {s n : Nat} {r : Rw} (h : s + n < E.length) : (overW E s n r).set (s + n) r = overW E s (n + 1) r := by
  refine rat_ext (by rw [List.length_set, overW_len (by omega), overW_len (by omega)]) fun i hi => ?_
  rw [rat_set, overW_len (by omega), rat_overW (by omega), rat_overW (by omega)]
  by_cases c : i = s + n
  · subst c; rw [if_pos ⟨rfl, h⟩, if_pos (by omega)]
  · rw [if_neg (by omega)]
    by_cases c2 : s ≤ i ∧ i < s + n
    · rw [if_pos c2, if_pos (by omega)]
    · rw [if_neg c2, if_neg (by omega)]
/-- A grid that may be. -/
structure MayR (g : List Rw) (W : Nat) : Prop where
  n1 : 1 ≤ g.length
  n2 : g.length ≤ 200
  w1 : 1 ≤ W
  w2 : W ≤ 200
  len : ∀ i, i < g.length → (rat g i).1.length = W
  may : ∀ i, i < g.length → mayL (rat g i).1 = true
theorem mayG_iff (g : List Rw) : mayG (gL g) = true ↔ MayR g (rat g 0).1.length := by
  unfold mayG
  rw [gL_len, lat_gL]
  simp only [Bool.and_eq_true]
  rw [allN_iff]
  constructor
  · rintro ⟨h1, h2, h3⟩
    obtain ⟨n, e1, a1, a2⟩ := sideB_nat h1
    obtain ⟨m, e2, b1, b2⟩ := sideB_nat h2
    refine ⟨by omega, by omega, by omega, by omega, fun i hi => ?_, fun i hi => ?_⟩ <;>
    · have := h3 i (by omega) (by omega)
      unfold okRow at this
      rw [lat_gL, lat_gL, Bool.and_eq_true, decide_eq_true_eq] at this
      first | exact this.1 | exact this.2
  · intro h
    refine ⟨by simp [sideB]; have := h.n1; have := h.n2; omega, by simp [sideB]; have := h.w1; have := h.w2; omega, fun j _ hj => ?_⟩
    unfold okRow
    rw [lat_gL, lat_gL, Bool.and_eq_true, decide_eq_true_eq]
    exact ⟨h.len j (by omega), h.may j (by omega)⟩
variable (G : Nat → Option (List AV)) (hG : G 0 = some tabC)
/-- What stands in a row behind a scroll. -/
def scrC (g : List Rw) (top bot n : Int) (W : Nat) (k : Int) (i : Nat) : Rw :=
  if (i : Int) < top ∨ bot < i then fr (rat g i) else if i + n < top ∨ bot < i + n then (List.replicate W (blankC k), false) else fr (rat g (i + n).toNat)
def scrollT (g : List Rw) (top bot n b f k : Int) : List Rw :=
  if (mayG (gL g) && penB b f k) = true then
    if top < 0 ∨ bot < top ∨ (g.length : Int) ≤ bot then g.map fr
    else (List.range g.length).map (scrC g top bot n (rat g 0).1.length k)
  else []
section
variable (g : List Rw) (b f : Bool)
theorem scroll_loop (pb pf pk : Int) (W : Nat) (h0 : 0 < g.length) (hw : (rat g 0).1.length = W) (hW : W ≤ 1000) (hp : penB pb pf pk = true) (E : List Rw) (s l c : Nat) (hE : E.length ≤ 1000) (hs : s + l ≤ E.length) :
    ∀ m i, i + m = l → ∀ st, agc 0 [0, 9, 11, 12, 75, 76] st = some ⟨[(0, .data b 1 (gA g) f), (9, .ptr 0 0 0 0), (11, .own 1 0 0 E.length E.length), (12, .own 1 0 s l c), (75, .int .i64 l), (76, .int .i64 i)], [⟨3, 0, true, [[.int .i64 pb, .int .i64 pf, .int .i64 pk]]⟩, ⟨1, 0, true, gA (overW E s i (List.replicate W (blankC pk), false))⟩]⟩ →
    aE G FT 0 lp_grid_Scroll_0 st = some (.exit 0, ⟨[(0, .data b 1 (gA g) f), (9, .ptr 0 0 0 0), (11, .own 1 0 0 E.length E.length), (12, .own 1 0 s l c), (75, .int .i64 l), (76, .int .i64 l), (77, .bool false)], [⟨3, 0, true, [[.int .i64 pb, .int .i64 pf, .int .i64 pk]]⟩, ⟨1, 0, true, gA (overW E s l (List.replicate W (blankC pk), false))⟩]⟩) := by
  intro m
  induction m with
  | zero =>
    intro i hi st hst
    obtain rfl : i = l := by omega
    have h4 : ¬ (i : Int) < i := by omega
    rw [lp_grid_Scroll_0, y_loop, hst]
    (sym => simp [Qa,Qb,Qc,Qd,Qe,Qf,Qg,Qh,Qi,Qj,Qk,Ql,Qm,Qn,Qo,Qp,Qq,Qr,Qs,Qt,Qu,Qv,Qw,Qx,Qy,Qz,Q0,Q1,Q2,Q3,Q4,Q5,Q6,Q7,Q8,Q9,Xa,Xb,Xc,Xd,Xe,Xf,Xg,Xh,Xi,Xj,Xk,Xl,Xm,Xn,Xo,Xp,Xq,Xr,Xs,Xt,Xu,Xv,Xw,Xx,Xy,Xz,X0,X1,X2,X3,X4,X5,X6,X7,X8,X9,Ya,Yb,Yc,Yd,Ye,Yf,Yg,Yh,Yi,Yj,Yk,Yl,Ym,Yn,Yo,Yp,Yq,Yr,Ys,Yt,Yu,Yv,Yw,Yx,Yy,Yz,Y0,Y1,Y2,Y3,Y4,Y5,Y6,Y7,Y8,Y9,Za,Zb,Zc,Zd,Ze,Zf,Zg,Zh,Zi,Zj,Zk,Zl,Zm,Zn,Zo,Zp,Zq,Zr,Zs,Zt,Zu,Zv,Zw,Zx,Zy,Zz,Z0,Z1,Z2,Z3,Z4,Z5,Z6,Z7,Z8,Z9,Ja,Jb,Jc,Jd,Je,Jf,Jg,Jh,Ji,Jj,Jk,Jl,Jm,Jn,Jo,Jp,Jq,Jr,Js,Jt,Ju,Jv,Jw,Jx,Jy,Jz,J0,J1,J2,J3,J4,J5,J6,J7,J8,J9,Ka,Kb,Kc,Kd,Ke,Kf,Kg,Kh,Ki,Kj,Kk,Kl,Km,Kn,Ko,Kp,Kq,Kr,Ks,Kt,Ku,Kv,Kw,Kx,Ky,Kz,K0,K1,K2,K3,K4,K5,K6,K7,K8,K9,Ua,Ub,Uc,Ud,Ue,Uf,Ug,Uh,Ui,Uj,Uk,Ul,Um,Un,Uo,Up,Uq,Ur,Us,Ut,Uu,Uv,Uw,Ux,Uy,Uz,U0,U1,U2,U3,U4,U5,U6,U7,U8,U9,Va,Vb,Vc,Vd,Ve,Vf,Vg,Vh,Vi,Vj,Vk,Vl,Vm,Vn,Vo,Vp,Vq,Vr,Vs,Vt,Vu,Vv,Vw,Vx,Vy,Vz,V0,V1,V2,V3,V4,V5,V6,V7,V8,V9,Wa,Wb,Wc,Wd,We,Wf,Wg,Wh,Wi,Wj,Wk,Wl,Wm,Wn,Wo,Wp,Wq,Wr,Ws,Wt,Wu,Wv,Ww,Wx,Wy,Wz,W0,W1,W2,W3,W4,W5,W6,W7,W8,W9,Ha,Hb,Hc,Hd,He,Hf,Hg,Hh,Hi,Hj,Hk,Hl,Hm,Hn,Ho,Hp,Hq,Hr,Hs,Ht,Hu,Hv,Hw,Hx,Hy,Hz,H0,H1,H2,H3,H4,H5,H6,H7,H8,H9,Na,Nb,Nc,Nd,Ne,Nf,Ng,Nh,Ni,Nj,Nk,Nl,Nm,Nn,No,Np,Nq,Nr,Ns,Nt,Nu,Nv,Nw,Nx,Ny,Nz,N0,N1,N2,N3,N4,N5,N6,N7,N8,N9,Ba,Bb,Bc,Bd,Be,Bf,Bg,Bh,Bi,c_grid_Scroll_R0.eq_1,c_grid_Scroll_R1.eq_1,c_grid_Scroll_R2.eq_1,c_grid_Scroll_R3.eq_1,c_grid_Scroll_R4.eq_1,c_grid_Scroll_R5.eq_1,c_grid_Scroll_R6.eq_1,c_grid_Scroll_R7.eq_1,c_grid_Scroll_R8.eq_1,c_grid_Scroll_R9.eq_1,c_grid_Scroll_R10.eq_1,c_grid_Scroll_R11.eq_1,c_grid_Scroll_R12.eq_1,c_grid_Scroll_R13.eq_1,c_grid_Scroll_R14.eq_1,c_grid_Scroll_R15.eq_1,c_grid_Scroll_R16.eq_1,c_grid_Scroll_R17.eq_1,c_grid_Scroll_R18.eq_1,c_grid_Scroll.eq_1,c_grid_Scroll_L0.eq_1,h4])
  | succ m ih =>
    intro i hi st hst
    have ih := ih (i + 1) (by omega)
    have q1 : (i : Int) < l := by omega
    have hw1 := wrap_nat (n := i) (by omega)
    have a0 := gA_get (g := g) (i := 0) h0
    have hb := lblank_P G pb pf pk (W : Int)
    have hbt : blanksT pb pf pk (W : Int) = List.replicate W (blankC pk) := by
      unfold blanksT
      rw [if_pos ⟨by omega, by omega, hp⟩, Int.toNat_natCast]
    rw [hbt] at hb
    have hil : i < l := by omega
    have hlen := overW_len (r := (List.replicate W (blankC pk), false)) (show s + i ≤ E.length by omega)
    have hsi : s + i < E.length := by omega
    have e1 : (gA (overW E s i (List.replicate W (blankC pk), false))).set (s + i) [.data false 7 (cells (List.replicate W (blankC pk))) false] = gA (overW E s (i + 1) (List.replicate W (blankC pk), false)) := by
      rw [gA_set, overW_set hsi]
    have e2 : (gA (overW E s i (List.replicate W (blankC pk), false)))[s + i]? = some [.data false 7 (cells (rat (overW E s i (List.replicate W (blankC pk), false)) (s + i)).1) (rat (overW E s i (List.replicate W (blankC pk), false)) (s + i)).2] := gA_get (by omega)
    rw [lp_grid_Scroll_0] at ih
    rw [lp_grid_Scroll_0, y_loop, hst]
    (sym => simp [Qa,Qb,Qc,Qd,Qe,Qf,Qg,Qh,Qi,Qj,Qk,Ql,Qm,Qn,Qo,Qp,Qq,Qr,Qs,Qt,Qu,Qv,Qw,Qx,Qy,Qz,Q0,Q1,Q2,Q3,Q4,Q5,Q6,Q7,Q8,Q9,Xa,Xb,Xc,Xd,Xe,Xf,Xg,Xh,Xi,Xj,Xk,Xl,Xm,Xn,Xo,Xp,Xq,Xr,Xs,Xt,Xu,Xv,Xw,Xx,Xy,Xz,X0,X1,X2,X3,X4,X5,X6,X7,X8,X9,Ya,Yb,Yc,Yd,Ye,Yf,Yg,Yh,Yi,Yj,Yk,Yl,Ym,Yn,Yo,Yp,Yq,Yr,Ys,Yt,Yu,Yv,Yw,Yx,Yy,Yz,Y0,Y1,Y2,Y3,Y4,Y5,Y6,Y7,Y8,Y9,Za,Zb,Zc,Zd,Ze,Zf,Zg,Zh,Zi,Zj,Zk,Zl,Zm,Zn,Zo,Zp,Zq,Zr,Zs,Zt,Zu,Zv,Zw,Zx,Zy,Zz,Z0,Z1,Z2,Z3,Z4,Z5,Z6,Z7,Z8,Z9,Ja,Jb,Jc,Jd,Je,Jf,Jg,Jh,Ji,Jj,Jk,Jl,Jm,Jn,Jo,Jp,Jq,Jr,Js,Jt,Ju,Jv,Jw,Jx,Jy,Jz,J0,J1,J2,J3,J4,J5,J6,J7,J8,J9,Ka,Kb,Kc,Kd,Ke,Kf,Kg,Kh,Ki,Kj,Kk,Kl,Km,Kn,Ko,Kp,Kq,Kr,Ks,Kt,Ku,Kv,Kw,Kx,Ky,Kz,K0,K1,K2,K3,K4,K5,K6,K7,K8,K9,Ua,Ub,Uc,Ud,Ue,Uf,Ug,Uh,Ui,Uj,Uk,Ul,Um,Un,Uo,Up,Uq,Ur,Us,Ut,Uu,Uv,Uw,Ux,Uy,Uz,U0,U1,U2,U3,U4,U5,U6,U7,U8,U9,Va,Vb,Vc,Vd,Ve,Vf,Vg,Vh,Vi,Vj,Vk,Vl,Vm,Vn,Vo,Vp,Vq,Vr,Vs,Vt,Vu,Vv,Vw,Vx,Vy,Vz,V0,V1,V2,V3,V4,V5,V6,V7,V8,V9,Wa,Wb,Wc,Wd,We,Wf,Wg,Wh,Wi,Wj,Wk,Wl,Wm,Wn,Wo,Wp,Wq,Wr,Ws,Wt,Wu,Wv,Ww,Wx,Wy,Wz,W0,W1,W2,W3,W4,W5,W6,W7,W8,W9,Ha,Hb,Hc,Hd,He,Hf,Hg,Hh,Hi,Hj,Hk,Hl,Hm,Hn,Ho,Hp,Hq,Hr,Hs,Ht,Hu,Hv,Hw,Hx,Hy,Hz,H0,H1,H2,H3,H4,H5,H6,H7,H8,H9,Na,Nb,Nc,Nd,Ne,Nf,Ng,Nh,Ni,Nj,Nk,Nl,Nm,Nn,No,Np,Nq,Nr,Ns,Nt,Nu,Nv,Nw,Nx,Ny,Nz,N0,N1,N2,N3,N4,N5,N6,N7,N8,N9,Ba,Bb,Bc,Bd,Be,Bf,Bg,Bh,Bi,c_grid_Scroll_R0.eq_1,c_grid_Scroll_R1.eq_1,c_grid_Scroll_R2.eq_1,c_grid_Scroll_R3.eq_1,c_grid_Scroll_R4.eq_1,c_grid_Scroll_R5.eq_1,c_grid_Scroll_R6.eq_1,c_grid_Scroll_R7.eq_1,c_grid_Scroll_R8.eq_1,c_grid_Scroll_R9.eq_1,c_grid_Scroll_R10.eq_1,c_grid_Scroll_R11.eq_1,c_grid_Scroll_R12.eq_1,c_grid_Scroll_R13.eq_1,c_grid_Scroll_R14.eq_1,c_grid_Scroll_R15.eq_1,c_grid_Scroll_R16.eq_1,c_grid_Scroll_R17.eq_1,c_grid_Scroll_R18.eq_1,c_grid_Scroll.eq_1,c_grid_Scroll_L0.eq_1,q1,hw,hw1,a0,hb,hil,hsi,e1,e2,gA_len,cells_len,hlen]; tactic => (
      refine ih _ ?_
      (sym => simp [Qa,Qb,Qc,Qd,Qe,Qf,Qg,Qh,Qi,Qj,Qk,Ql,Qm,Qn,Qo,Qp,Qq,Qr,Qs,Qt,Qu,Qv,Qw,Qx,Qy,Qz,Q0,Q1,Q2,Q3,Q4,Q5,Q6,Q7,Q8,Q9,Xa,Xb,Xc,Xd,Xe,Xf,Xg,Xh,Xi,Xj,Xk,Xl,Xm,Xn,Xo,Xp,Xq,Xr,Xs,Xt,Xu,Xv,Xw,Xx,Xy,Xz,X0,X1,X2,X3,X4,X5,X6,X7,X8,X9,Ya,Yb,Yc,Yd,Ye,Yf,Yg,Yh,Yi,Yj,Yk,Yl,Ym,Yn,Yo,Yp,Yq,Yr,Ys,Yt,Yu,Yv,Yw,Yx,Yy,Yz,Y0,Y1,Y2,Y3,Y4,Y5,Y6,Y7,Y8,Y9,Za,Zb,Zc,Zd,Ze,Zf,Zg,Zh,Zi,Zj,Zk,Zl,Zm,Zn,Zo,Zp,Zq,Zr,Zs,Zt,Zu,Zv,Zw,Zx,Zy,Zz,Z0,Z1,Z2,Z3,Z4,Z5,Z6,Z7,Z8,Z9,Ja,Jb,Jc,Jd,Je,Jf,Jg,Jh,Ji,Jj,Jk,Jl,Jm,Jn,Jo,Jp,Jq,Jr,Js,Jt,Ju,Jv,Jw,Jx,Jy,Jz,J0,J1,J2,J3,J4,J5,J6,J7,J8,J9,Ka,Kb,Kc,Kd,Ke,Kf,Kg,Kh,Ki,Kj,Kk,Kl,Km,Kn,Ko,Kp,Kq,Kr,Ks,Kt,Ku,Kv,Kw,Kx,Ky,Kz,K0,K1,K2,K3,K4,K5,K6,K7,K8,K9,Ua,Ub,Uc,Ud,Ue,Uf,Ug,Uh,Ui,Uj,Uk,Ul,Um,Un,Uo,Up,Uq,Ur,Us,Ut,Uu,Uv,Uw,Ux,Uy,Uz,U0,U1,U2,U3,U4,U5,U6,U7,U8,U9,Va,Vb,Vc,Vd,Ve,Vf,Vg,Vh,Vi,Vj,Vk,Vl,Vm,Vn,Vo,Vp,Vq,Vr,Vs,Vt,Vu,Vv,Vw,Vx,Vy,Vz,V0,V1,V2,V3,V4,V5,V6,V7,V8,V9,Wa,Wb,Wc,Wd,We,Wf,Wg,Wh,Wi,Wj,Wk,Wl,Wm,Wn,Wo,Wp,Wq,Wr,Ws,Wt,Wu,Wv,Ww,Wx,Wy,Wz,W0,W1,W2,W3,W4,W5,W6,W7,W8,W9,Ha,Hb,Hc,Hd,He,Hf,Hg,Hh,Hi,Hj,Hk,Hl,Hm,Hn,Ho,Hp,Hq,Hr,Hs,Ht,Hu,Hv,Hw,Hx,Hy,Hz,H0,H1,H2,H3,H4,H5,H6,H7,H8,H9,Na,Nb,Nc,Nd,Ne,Nf,Ng,Nh,Ni,Nj,Nk,Nl,Nm,Nn,No,Np,Nq,Nr,Ns,Nt,Nu,Nv,Nw,Nx,Ny,Nz,N0,N1,N2,N3,N4,N5,N6,N7,N8,N9,Ba,Bb,Bc,Bd,Be,Bf,Bg,Bh,Bi,e1])))
theorem rat_map_fr (g : List Rw) (i : Nat) (h : i < g.length) : rat (g.map fr) i = fr (rat g i) := by simp [rat, h]
theorem up_eq {g : List Rw} {t d k W : Nat} {pk : Int} (hN : t + d < g.length) (hk : k ≤ d + 1) {n : Int} (hn : (n = k ∧ k < d + 1) ∨ (k = d + 1 ∧ (d : Int) + 1 ≤ n)) :
    overW ((g.map fr).take t ++ (((g.map fr).drop (t + k)).take (d + 1 - k)) ++ (g.map fr).drop (t + (d + 1 - k))) (t + (d + 1 - k)) k (List.replicate W (blankC pk), false) = (List.range g.length).map (scrC g t (t + d : Nat) n W pk) := by
  have hml : (g.map fr).length = g.length := by simp
  have l1 : ((g.map fr).take t).length = t := by simp; omega
  have l2 : (((g.map fr).drop (t + k)).take (d + 1 - k)).length = d + 1 - k := by simp; omega
  have lE : ((g.map fr).take t ++ (((g.map fr).drop (t + k)).take (d + 1 - k)) ++ (g.map fr).drop (t + (d + 1 - k))).length = g.length := by
    rw [List.length_append, List.length_append, l1, l2, List.length_drop, hml]; omega
  refine rat_ext (by rw [overW_len (by omega), lE]; simp) fun i hi => ?_
  rw [overW_len (by omega), lE] at hi
  rw [rat_overW (by omega), rat_range _ hi]
  unfold scrC
  by_cases c0 : i < t
  · rw [if_neg (by omega), if_pos (by omega), rat_app, if_pos (by rw [List.length_append, l1, l2]; omega), rat_app, if_pos (by omega), rat_take _ c0, rat_map_fr g i hi]
  by_cases c1 : i < t + (d + 1 - k)
  · rw [if_neg (by omega), if_neg (by omega), if_neg (by omega), rat_app, if_pos (by rw [List.length_append, l1, l2]; omega), rat_app, if_neg (by omega), l1, rat_take _ (by omega), rat_drop]
    rw [rat_map_fr g _ (by omega)]
    congr 2; omega
  by_cases c2 : i < t + (d + 1)
  · rw [if_pos (by omega), if_neg (by omega), if_pos (by omega)]
  · rw [if_neg (by omega), if_pos (by omega), rat_app, if_neg (by rw [List.length_append, l1, l2]; omega), List.length_append, l1, l2, rat_drop]
    rw [show t + (d + 1 - k) + (i - (t + (d + 1 - k))) = i by omega, rat_map_fr g i hi]
theorem down_eq {g : List Rw} {t d k W : Nat} {pk : Int} (hN : t + d < g.length) (hk : k ≤ d + 1) (h1 : 1 ≤ k) {n : Int} (hn : (n = -(k : Int) ∧ k < d + 1) ∨ (k = d + 1 ∧ n ≤ -((d : Int) + 1))) :
    overW ((g.map fr).take (t + k) ++ (((g.map fr).drop t).take (d + 1 - k)) ++ (g.map fr).drop (t + k + (d + 1 - k))) t k (List.replicate W (blankC pk), false) = (List.range g.length).map (scrC g t (t + d : Nat) n W pk) := by
  have hml : (g.map fr).length = g.length := by simp
  have l1 : ((g.map fr).take (t + k)).length = t + k := by simp; omega
  have l2 : (((g.map fr).drop t).take (d + 1 - k)).length = d + 1 - k := by simp; omega
  have lE : ((g.map fr).take (t + k) ++ (((g.map fr).drop t).take (d + 1 - k)) ++ (g.map fr).drop (t + k + (d + 1 - k))).length = g.length := by
    rw [List.length_append, List.length_append, l1, l2, List.length_drop, hml]; omega
  refine rat_ext (by rw [overW_len (by omega), lE]; simp) fun i hi => ?_
  rw [overW_len (by omega), lE] at hi
  rw [rat_overW (by omega), rat_range _ hi]
  unfold scrC
  by_cases c0 : i < t
  · rw [if_neg (by omega), if_pos (by omega), rat_app, if_pos (by rw [List.length_append, l1, l2]; omega), rat_app, if_pos (by omega), rat_take _ (by omega), rat_map_fr g i hi]
  by_cases c1 : i < t + k
  · rw [if_pos (by omega), if_neg (by omega), if_pos (by omega)]
  by_cases c2 : i < t + (d + 1)
  · rw [if_neg (by omega), if_neg (by omega), if_neg (by omega), rat_app, if_pos (by rw [List.length_append, l1, l2]; omega), rat_app, if_neg (by omega), l1, rat_take _ (by omega), rat_drop]
    rw [rat_map_fr g _ (by omega)]
    congr 2; omega
  · rw [if_neg (by omega), if_pos (by omega), rat_app, if_neg (by rw [List.length_append, l1, l2]; omega), List.length_append, l1, l2, rat_drop]
    rw [show t + k + (d + 1 - k) + (i - (t + k + (d + 1 - k))) = i by omega, rat_map_fr g i hi]
include hG in
theorem scroll_P (top bot n pb pf pk : Int) (hl : Lo g) : aP G FT n_grid_Scroll [.data b 1 (gA g) f, .int .i64 top, .int .i64 bot, .int .i64 n, .agg [.int .i64 pb, .int .i64 pf, .int .i64 pk]] = some (.data false 1 (gA (scrollT g top bot n pb pf pk)) false) := by
  have hm := fun b f => mayG_P G hG g b f hl
  have hp := pen_P G pb pf pk
  have hc := fun b f => copied_run G g b f hl
  unfold aP scrollT
  rw [run_grid_Scroll]
  cases h1 : mayG (gL g)
  · (sym => simp [Qa,Qb,Qc,Qd,Qe,Qf,Qg,Qh,Qi,Qj,Qk,Ql,Qm,Qn,Qo,Qp,Qq,Qr,Qs,Qt,Qu,Qv,Qw,Qx,Qy,Qz,Q0,Q1,Q2,Q3,Q4,Q5,Q6,Q7,Q8,Q9,Xa,Xb,Xc,Xd,Xe,Xf,Xg,Xh,Xi,Xj,Xk,Xl,Xm,Xn,Xo,Xp,Xq,Xr,Xs,Xt,Xu,Xv,Xw,Xx,Xy,Xz,X0,X1,X2,X3,X4,X5,X6,X7,X8,X9,Ya,Yb,Yc,Yd,Ye,Yf,Yg,Yh,Yi,Yj,Yk,Yl,Ym,Yn,Yo,Yp,Yq,Yr,Ys,Yt,Yu,Yv,Yw,Yx,Yy,Yz,Y0,Y1,Y2,Y3,Y4,Y5,Y6,Y7,Y8,Y9,Za,Zb,Zc,Zd,Ze,Zf,Zg,Zh,Zi,Zj,Zk,Zl,Zm,Zn,Zo,Zp,Zq,Zr,Zs,Zt,Zu,Zv,Zw,Zx,Zy,Zz,Z0,Z1,Z2,Z3,Z4,Z5,Z6,Z7,Z8,Z9,Ja,Jb,Jc,Jd,Je,Jf,Jg,Jh,Ji,Jj,Jk,Jl,Jm,Jn,Jo,Jp,Jq,Jr,Js,Jt,Ju,Jv,Jw,Jx,Jy,Jz,J0,J1,J2,J3,J4,J5,J6,J7,J8,J9,Ka,Kb,Kc,Kd,Ke,Kf,Kg,Kh,Ki,Kj,Kk,Kl,Km,Kn,Ko,Kp,Kq,Kr,Ks,Kt,Ku,Kv,Kw,Kx,Ky,Kz,K0,K1,K2,K3,K4,K5,K6,K7,K8,K9,Ua,Ub,Uc,Ud,Ue,Uf,Ug,Uh,Ui,Uj,Uk,Ul,Um,Un,Uo,Up,Uq,Ur,Us,Ut,Uu,Uv,Uw,Ux,Uy,Uz,U0,U1,U2,U3,U4,U5,U6,U7,U8,U9,Va,Vb,Vc,Vd,Ve,Vf,Vg,Vh,Vi,Vj,Vk,Vl,Vm,Vn,Vo,Vp,Vq,Vr,Vs,Vt,Vu,Vv,Vw,Vx,Vy,Vz,V0,V1,V2,V3,V4,V5,V6,V7,V8,V9,Wa,Wb,Wc,Wd,We,Wf,Wg,Wh,Wi,Wj,Wk,Wl,Wm,Wn,Wo,Wp,Wq,Wr,Ws,Wt,Wu,Wv,Ww,Wx,Wy,Wz,W0,W1,W2,W3,W4,W5,W6,W7,W8,W9,Ha,Hb,Hc,Hd,He,Hf,Hg,Hh,Hi,Hj,Hk,Hl,Hm,Hn,Ho,Hp,Hq,Hr,Hs,Ht,Hu,Hv,Hw,Hx,Hy,Hz,H0,H1,H2,H3,H4,H5,H6,H7,H8,H9,Na,Nb,Nc,Nd,Ne,Nf,Ng,Nh,Ni,Nj,Nk,Nl,Nm,Nn,No,Np,Nq,Nr,Ns,Nt,Nu,Nv,Nw,Nx,Ny,Nz,N0,N1,N2,N3,N4,N5,N6,N7,N8,N9,Ba,Bb,Bc,Bd,Be,Bf,Bg,Bh,Bi,c_grid_Scroll_R0.eq_1,c_grid_Scroll_R1.eq_1,c_grid_Scroll_R2.eq_1,c_grid_Scroll_R3.eq_1,c_grid_Scroll_R4.eq_1,c_grid_Scroll_R5.eq_1,c_grid_Scroll_R6.eq_1,c_grid_Scroll_R7.eq_1,c_grid_Scroll_R8.eq_1,c_grid_Scroll_R9.eq_1,c_grid_Scroll_R10.eq_1,c_grid_Scroll_R11.eq_1,c_grid_Scroll_R12.eq_1,c_grid_Scroll_R13.eq_1,c_grid_Scroll_R14.eq_1,c_grid_Scroll_R15.eq_1,c_grid_Scroll_R16.eq_1,c_grid_Scroll_R17.eq_1,c_grid_Scroll_R18.eq_1,c_grid_Scroll.eq_1,hm,h1,gA_nil])
  cases h2 : penB pb pf pk
  · (sym => simp [Qa,Qb,Qc,Qd,Qe,Qf,Qg,Qh,Qi,Qj,Qk,Ql,Qm,Qn,Qo,Qp,Qq,Qr,Qs,Qt,Qu,Qv,Qw,Qx,Qy,Qz,Q0,Q1,Q2,Q3,Q4,Q5,Q6,Q7,Q8,Q9,Xa,Xb,Xc,Xd,Xe,Xf,Xg,Xh,Xi,Xj,Xk,Xl,Xm,Xn,Xo,Xp,Xq,Xr,Xs,Xt,Xu,Xv,Xw,Xx,Xy,Xz,X0,X1,X2,X3,X4,X5,X6,X7,X8,X9,Ya,Yb,Yc,Yd,Ye,Yf,Yg,Yh,Yi,Yj,Yk,Yl,Ym,Yn,Yo,Yp,Yq,Yr,Ys,Yt,Yu,Yv,Yw,Yx,Yy,Yz,Y0,Y1,Y2,Y3,Y4,Y5,Y6,Y7,Y8,Y9,Za,Zb,Zc,Zd,Ze,Zf,Zg,Zh,Zi,Zj,Zk,Zl,Zm,Zn,Zo,Zp,Zq,Zr,Zs,Zt,Zu,Zv,Zw,Zx,Zy,Zz,Z0,Z1,Z2,Z3,Z4,Z5,Z6,Z7,Z8,Z9,Ja,Jb,Jc,Jd,Je,Jf,Jg,Jh,Ji,Jj,Jk,Jl,Jm,Jn,Jo,Jp,Jq,Jr,Js,Jt,Ju,Jv,Jw,Jx,Jy,Jz,J0,J1,J2,J3,J4,J5,J6,J7,J8,J9,Ka,Kb,Kc,Kd,Ke,Kf,Kg,Kh,Ki,Kj,Kk,Kl,Km,Kn,Ko,Kp,Kq,Kr,Ks,Kt,Ku,Kv,Kw,Kx,Ky,Kz,K0,K1,K2,K3,K4,K5,K6,K7,K8,K9,Ua,Ub,Uc,Ud,Ue,Uf,Ug,Uh,Ui,Uj,Uk,Ul,Um,Un,Uo,Up,Uq,Ur,Us,Ut,Uu,Uv,Uw,Ux,Uy,Uz,U0,U1,U2,U3,U4,U5,U6,U7,U8,U9,Va,Vb,Vc,Vd,Ve,Vf,Vg,Vh,Vi,Vj,Vk,Vl,Vm,Vn,Vo,Vp,Vq,Vr,Vs,Vt,Vu,Vv,Vw,Vx,Vy,Vz,V0,V1,V2,V3,V4,V5,V6,V7,V8,V9,Wa,Wb,Wc,Wd,We,Wf,Wg,Wh,Wi,Wj,Wk,Wl,Wm,Wn,Wo,Wp,Wq,Wr,Ws,Wt,Wu,Wv,Ww,Wx,Wy,Wz,W0,W1,W2,W3,W4,W5,W6,W7,W8,W9,Ha,Hb,Hc,Hd,He,Hf,Hg,Hh,Hi,Hj,Hk,Hl,Hm,Hn,Ho,Hp,Hq,Hr,Hs,Ht,Hu,Hv,Hw,Hx,Hy,Hz,H0,H1,H2,H3,H4,H5,H6,H7,H8,H9,Na,Nb,Nc,Nd,Ne,Nf,Ng,Nh,Ni,Nj,Nk,Nl,Nm,Nn,No,Np,Nq,Nr,Ns,Nt,Nu,Nv,Nw,Nx,Ny,Nz,N0,N1,N2,N3,N4,N5,N6,N7,N8,N9,Ba,Bb,Bc,Bd,Be,Bf,Bg,Bh,Bi,c_grid_Scroll_R0.eq_1,c_grid_Scroll_R1.eq_1,c_grid_Scroll_R2.eq_1,c_grid_Scroll_R3.eq_1,c_grid_Scroll_R4.eq_1,c_grid_Scroll_R5.eq_1,c_grid_Scroll_R6.eq_1,c_grid_Scroll_R7.eq_1,c_grid_Scroll_R8.eq_1,c_grid_Scroll_R9.eq_1,c_grid_Scroll_R10.eq_1,c_grid_Scroll_R11.eq_1,c_grid_Scroll_R12.eq_1,c_grid_Scroll_R13.eq_1,c_grid_Scroll_R14.eq_1,c_grid_Scroll_R15.eq_1,c_grid_Scroll_R16.eq_1,c_grid_Scroll_R17.eq_1,c_grid_Scroll_R18.eq_1,c_grid_Scroll.eq_1,hm,h1,hp,h2,gA_nil])
  have hM := (mayG_iff g).1 h1
  obtain ⟨W, hW⟩ : ∃ W, (rat g 0).1.length = W := ⟨_, rfl⟩
  rw [hW] at hM ⊢
  obtain ⟨n1, n2, w1, w2, _, _⟩ := hM
  have tf : List.take g.length (gA (g.map fr)) = gA (g.map fr) := List.take_of_length_le (by simp [gA_len])
  have lm : (List.map fr g).length = g.length := by simp
  rw [Bool.true_and, if_pos rfl]
  by_cases c1 : top < 0
  · rw [if_pos (.inl c1)]
    (sym => simp [Qa,Qb,Qc,Qd,Qe,Qf,Qg,Qh,Qi,Qj,Qk,Ql,Qm,Qn,Qo,Qp,Qq,Qr,Qs,Qt,Qu,Qv,Qw,Qx,Qy,Qz,Q0,Q1,Q2,Q3,Q4,Q5,Q6,Q7,Q8,Q9,Xa,Xb,Xc,Xd,Xe,Xf,Xg,Xh,Xi,Xj,Xk,Xl,Xm,Xn,Xo,Xp,Xq,Xr,Xs,Xt,Xu,Xv,Xw,Xx,Xy,Xz,X0,X1,X2,X3,X4,X5,X6,X7,X8,X9,Ya,Yb,Yc,Yd,Ye,Yf,Yg,Yh,Yi,Yj,Yk,Yl,Ym,Yn,Yo,Yp,Yq,Yr,Ys,Yt,Yu,Yv,Yw,Yx,Yy,Yz,Y0,Y1,Y2,Y3,Y4,Y5,Y6,Y7,Y8,Y9,Za,Zb,Zc,Zd,Ze,Zf,Zg,Zh,Zi,Zj,Zk,Zl,Zm,Zn,Zo,Zp,Zq,Zr,Zs,Zt,Zu,Zv,Zw,Zx,Zy,Zz,Z0,Z1,Z2,Z3,Z4,Z5,Z6,Z7,Z8,Z9,Ja,Jb,Jc,Jd,Je,Jf,Jg,Jh,Ji,Jj,Jk,Jl,Jm,Jn,Jo,Jp,Jq,Jr,Js,Jt,Ju,Jv,Jw,Jx,Jy,Jz,J0,J1,J2,J3,J4,J5,J6,J7,J8,J9,Ka,Kb,Kc,Kd,Ke,Kf,Kg,Kh,Ki,Kj,Kk,Kl,Km,Kn,Ko,Kp,Kq,Kr,Ks,Kt,Ku,Kv,Kw,Kx,Ky,Kz,K0,K1,K2,K3,K4,K5,K6,K7,K8,K9,Ua,Ub,Uc,Ud,Ue,Uf,Ug,Uh,Ui,Uj,Uk,Ul,Um,Un,Uo,Up,Uq,Ur,Us,Ut,Uu,Uv,Uw,Ux,Uy,Uz,U0,U1,U2,U3,U4,U5,U6,U7,U8,U9,Va,Vb,Vc,Vd,Ve,Vf,Vg,Vh,Vi,Vj,Vk,Vl,Vm,Vn,Vo,Vp,Vq,Vr,Vs,Vt,Vu,Vv,Vw,Vx,Vy,Vz,V0,V1,V2,V3,V4,V5,V6,V7,V8,V9,Wa,Wb,Wc,Wd,We,Wf,Wg,Wh,Wi,Wj,Wk,Wl,Wm,Wn,Wo,Wp,Wq,Wr,Ws,Wt,Wu,Wv,Ww,Wx,Wy,Wz,W0,W1,W2,W3,W4,W5,W6,W7,W8,W9,Ha,Hb,Hc,Hd,He,Hf,Hg,Hh,Hi,Hj,Hk,Hl,Hm,Hn,Ho,Hp,Hq,Hr,Hs,Ht,Hu,Hv,Hw,Hx,Hy,Hz,H0,H1,H2,H3,H4,H5,H6,H7,H8,H9,Na,Nb,Nc,Nd,Ne,Nf,Ng,Nh,Ni,Nj,Nk,Nl,Nm,Nn,No,Np,Nq,Nr,Ns,Nt,Nu,Nv,Nw,Nx,Ny,Nz,N0,N1,N2,N3,N4,N5,N6,N7,N8,N9,Ba,Bb,Bc,Bd,Be,Bf,Bg,Bh,Bi,c_grid_Scroll_R0.eq_1,c_grid_Scroll_R1.eq_1,c_grid_Scroll_R2.eq_1,c_grid_Scroll_R3.eq_1,c_grid_Scroll_R4.eq_1,c_grid_Scroll_R5.eq_1,c_grid_Scroll_R6.eq_1,c_grid_Scroll_R7.eq_1,c_grid_Scroll_R8.eq_1,c_grid_Scroll_R9.eq_1,c_grid_Scroll_R10.eq_1,c_grid_Scroll_R11.eq_1,c_grid_Scroll_R12.eq_1,c_grid_Scroll_R13.eq_1,c_grid_Scroll_R14.eq_1,c_grid_Scroll_R15.eq_1,c_grid_Scroll_R16.eq_1,c_grid_Scroll_R17.eq_1,c_grid_Scroll_R18.eq_1,c_grid_Scroll.eq_1,hm,h1,hp,h2,hc,c1,gA_len,lm,tf])
  by_cases c2 : bot < top
  · rw [if_pos (.inr (.inl c2))]
    (sym => simp [Qa,Qb,Qc,Qd,Qe,Qf,Qg,Qh,Qi,Qj,Qk,Ql,Qm,Qn,Qo,Qp,Qq,Qr,Qs,Qt,Qu,Qv,Qw,Qx,Qy,Qz,Q0,Q1,Q2,Q3,Q4,Q5,Q6,Q7,Q8,Q9,Xa,Xb,Xc,Xd,Xe,Xf,Xg,Xh,Xi,Xj,Xk,Xl,Xm,Xn,Xo,Xp,Xq,Xr,Xs,Xt,Xu,Xv,Xw,Xx,Xy,Xz,X0,X1,X2,X3,X4,X5,X6,X7,X8,X9,Ya,Yb,Yc,Yd,Ye,Yf,Yg,Yh,Yi,Yj,Yk,Yl,Ym,Yn,Yo,Yp,Yq,Yr,Ys,Yt,Yu,Yv,Yw,Yx,Yy,Yz,Y0,Y1,Y2,Y3,Y4,Y5,Y6,Y7,Y8,Y9,Za,Zb,Zc,Zd,Ze,Zf,Zg,Zh,Zi,Zj,Zk,Zl,Zm,Zn,Zo,Zp,Zq,Zr,Zs,Zt,Zu,Zv,Zw,Zx,Zy,Zz,Z0,Z1,Z2,Z3,Z4,Z5,Z6,Z7,Z8,Z9,Ja,Jb,Jc,Jd,Je,Jf,Jg,Jh,Ji,Jj,Jk,Jl,Jm,Jn,Jo,Jp,Jq,Jr,Js,Jt,Ju,Jv,Jw,Jx,Jy,Jz,J0,J1,J2,J3,J4,J5,J6,J7,J8,J9,Ka,Kb,Kc,Kd,Ke,Kf,Kg,Kh,Ki,Kj,Kk,Kl,Km,Kn,Ko,Kp,Kq,Kr,Ks,Kt,Ku,Kv,Kw,Kx,Ky,Kz,K0,K1,K2,K3,K4,K5,K6,K7,K8,K9,Ua,Ub,Uc,Ud,Ue,Uf,Ug,Uh,Ui,Uj,Uk,Ul,Um,Un,Uo,Up,Uq,Ur,Us,Ut,Uu,Uv,Uw,Ux,Uy,Uz,U0,U1,U2,U3,U4,U5,U6,U7,U8,U9,Va,Vb,Vc,Vd,Ve,Vf,Vg,Vh,Vi,Vj,Vk,Vl,Vm,Vn,Vo,Vp,Vq,Vr,Vs,Vt,Vu,Vv,Vw,Vx,Vy,Vz,V0,V1,V2,V3,V4,V5,V6,V7,V8,V9,Wa,Wb,Wc,Wd,We,Wf,Wg,Wh,Wi,Wj,Wk,Wl,Wm,Wn,Wo,Wp,Wq,Wr,Ws,Wt,Wu,Wv,Ww,Wx,Wy,Wz,W0,W1,W2,W3,W4,W5,W6,W7,W8,W9,Ha,Hb,Hc,Hd,He,Hf,Hg,Hh,Hi,Hj,Hk,Hl,Hm,Hn,Ho,Hp,Hq,Hr,Hs,Ht,Hu,Hv,Hw,Hx,Hy,Hz,H0,H1,H2,H3,H4,H5,H6,H7,H8,H9,Na,Nb,Nc,Nd,Ne,Nf,Ng,Nh,Ni,Nj,Nk,Nl,Nm,Nn,No,Np,Nq,Nr,Ns,Nt,Nu,Nv,Nw,Nx,Ny,Nz,N0,N1,N2,N3,N4,N5,N6,N7,N8,N9,Ba,Bb,Bc,Bd,Be,Bf,Bg,Bh,Bi,c_grid_Scroll_R0.eq_1,c_grid_Scroll_R1.eq_1,c_grid_Scroll_R2.eq_1,c_grid_Scroll_R3.eq_1,c_grid_Scroll_R4.eq_1,c_grid_Scroll_R5.eq_1,c_grid_Scroll_R6.eq_1,c_grid_Scroll_R7.eq_1,c_grid_Scroll_R8.eq_1,c_grid_Scroll_R9.eq_1,c_grid_Scroll_R10.eq_1,c_grid_Scroll_R11.eq_1,c_grid_Scroll_R12.eq_1,c_grid_Scroll_R13.eq_1,c_grid_Scroll_R14.eq_1,c_grid_Scroll_R15.eq_1,c_grid_Scroll_R16.eq_1,c_grid_Scroll_R17.eq_1,c_grid_Scroll_R18.eq_1,c_grid_Scroll.eq_1,hm,h1,hp,h2,hc,c1,c2,gA_len,lm,tf])
  by_cases c3 : (g.length : Int) ≤ bot
  · rw [if_pos (.inr (.inr c3))]
    (sym => simp [Qa,Qb,Qc,Qd,Qe,Qf,Qg,Qh,Qi,Qj,Qk,Ql,Qm,Qn,Qo,Qp,Qq,Qr,Qs,Qt,Qu,Qv,Qw,Qx,Qy,Qz,Q0,Q1,Q2,Q3,Q4,Q5,Q6,Q7,Q8,Q9,Xa,Xb,Xc,Xd,Xe,Xf,Xg,Xh,Xi,Xj,Xk,Xl,Xm,Xn,Xo,Xp,Xq,Xr,Xs,Xt,Xu,Xv,Xw,Xx,Xy,Xz,X0,X1,X2,X3,X4,X5,X6,X7,X8,X9,Ya,Yb,Yc,Yd,Ye,Yf,Yg,Yh,Yi,Yj,Yk,Yl,Ym,Yn,Yo,Yp,Yq,Yr,Ys,Yt,Yu,Yv,Yw,Yx,Yy,Yz,Y0,Y1,Y2,Y3,Y4,Y5,Y6,Y7,Y8,Y9,Za,Zb,Zc,Zd,Ze,Zf,Zg,Zh,Zi,Zj,Zk,Zl,Zm,Zn,Zo,Zp,Zq,Zr,Zs,Zt,Zu,Zv,Zw,Zx,Zy,Zz,Z0,Z1,Z2,Z3,Z4,Z5,Z6,Z7,Z8,Z9,Ja,Jb,Jc,Jd,Je,Jf,Jg,Jh,Ji,Jj,Jk,Jl,Jm,Jn,Jo,Jp,Jq,Jr,Js,Jt,Ju,Jv,Jw,Jx,Jy,Jz,J0,J1,J2,J3,J4,J5,J6,J7,J8,J9,Ka,Kb,Kc,Kd,Ke,Kf,Kg,Kh,Ki,Kj,Kk,Kl,Km,Kn,Ko,Kp,Kq,Kr,Ks,Kt,Ku,Kv,Kw,Kx,Ky,Kz,K0,K1,K2,K3,K4,K5,K6,K7,K8,K9,Ua,Ub,Uc,Ud,Ue,Uf,Ug,Uh,Ui,Uj,Uk,Ul,Um,Un,Uo,Up,Uq,Ur,Us,Ut,Uu,Uv,Uw,Ux,Uy,Uz,U0,U1,U2,U3,U4,U5,U6,U7,U8,U9,Va,Vb,Vc,Vd,Ve,Vf,Vg,Vh,Vi,Vj,Vk,Vl,Vm,Vn,Vo,Vp,Vq,Vr,Vs,Vt,Vu,Vv,Vw,Vx,Vy,Vz,V0,V1,V2,V3,V4,V5,V6,V7,V8,V9,Wa,Wb,Wc,Wd,We,Wf,Wg,Wh,Wi,Wj,Wk,Wl,Wm,Wn,Wo,Wp,Wq,Wr,Ws,Wt,Wu,Wv,Ww,Wx,Wy,Wz,W0,W1,W2,W3,W4,W5,W6,W7,W8,W9,Ha,Hb,Hc,Hd,He,Hf,Hg,Hh,Hi,Hj,Hk,Hl,Hm,Hn,Ho,Hp,Hq,Hr,Hs,Ht,Hu,Hv,Hw,Hx,Hy,Hz,H0,H1,H2,H3,H4,H5,H6,H7,H8,H9,Na,Nb,Nc,Nd,Ne,Nf,Ng,Nh,Ni,Nj,Nk,Nl,Nm,Nn,No,Np,Nq,Nr,Ns,Nt,Nu,Nv,Nw,Nx,Ny,Nz,N0,N1,N2,N3,N4,N5,N6,N7,N8,N9,Ba,Bb,Bc,Bd,Be,Bf,Bg,Bh,Bi,c_grid_Scroll_R0.eq_1,c_grid_Scroll_R1.eq_1,c_grid_Scroll_R2.eq_1,c_grid_Scroll_R3.eq_1,c_grid_Scroll_R4.eq_1,c_grid_Scroll_R5.eq_1,c_grid_Scroll_R6.eq_1,c_grid_Scroll_R7.eq_1,c_grid_Scroll_R8.eq_1,c_grid_Scroll_R9.eq_1,c_grid_Scroll_R10.eq_1,c_grid_Scroll_R11.eq_1,c_grid_Scroll_R12.eq_1,c_grid_Scroll_R13.eq_1,c_grid_Scroll_R14.eq_1,c_grid_Scroll_R15.eq_1,c_grid_Scroll_R16.eq_1,c_grid_Scroll_R17.eq_1,c_grid_Scroll_R18.eq_1,c_grid_Scroll.eq_1,hm,h1,hp,h2,hc,c1,c2,c3,gA_len,lm,tf])
  rw [if_neg (by omega)]
  obtain ⟨t, rfl⟩ : ∃ t : Nat, top = t := ⟨top.toNat, by omega⟩
  obtain ⟨d, rfl⟩ : ∃ d : Nat, bot = ((t + d : Nat) : Int) := ⟨bot.toNat - t, by omega⟩
  have hN : t + d < g.length := by omega
  have wb : IntKind.i64.wrap (((t + d : Nat) : Int) + 1) = ((t + d + 1 : Nat) : Int) := by rw [wrap_in _ (by omega) (by omega)]; rfl
  have sd : t + d + 1 - t = d + 1 := by omega
  have a1 : t ≤ t + d + 1 := by omega
  have a2 : t + d + 1 ≤ g.length := by omega
  have wn : asum .i64 (0 - ((d + 1 : Nat) : Int)) = .int .i64 (-((d + 1 : Nat) : Int)) := by
    unfold asum
    rw [Int.zero_sub, wrap_in _ (by omega) (by omega)]
  by_cases s0 : 0 ≤ n
  · obtain ⟨k, hk⟩ : ∃ k : Nat, min n ((d + 1 : Nat) : Int) = k := ⟨(min n ((d + 1 : Nat) : Int)).toNat, by omega⟩
    have hk1 : k ≤ d + 1 := by omega
    have mx : max (-((d + 1 : Nat) : Int)) (k : Int) = k := by omega
    have k0 : (0 : Int) ≤ k := by omega
    have ws : IntKind.i64.wrap (((d + 1 : Nat) : Int) - (k : Int)) = ((d + 1 - k : Nat) : Int) := by rw [wrap_in _ (by omega) (by omega)]; omega
    have ue := up_eq (g := g) (t := t) (d := d) (k := k) (W := W) (pk := pk) hN hk1 (n := n) (by omega)
    obtain ⟨E0, hE0⟩ : ∃ E0, E0 = (g.map fr).take t ++ (((g.map fr).drop (t + k)).take (d + 1 - k)) ++ (g.map fr).drop (t + (d + 1 - k)) := ⟨_, rfl⟩
    have lE : E0.length = g.length := by rw [hE0]; simp; omega
    rw [← hE0] at ue
    have z1 : d + 1 - (d + 1 - k) = k := by omega
    have z2 : d + 1 - k ≤ d + 1 := by omega
    have key := fun c => scroll_loop G g b f pb pf pk W (by omega) hW (by omega) h2 E0 (t + (d + 1 - k)) k c (by omega) (by omega) k 0 (by omega) ⟨[(0, .data b 1 (gA g) f), (9, .ptr 0 0 0 0), (11, .own 1 0 0 g.length g.length), (12, .own 1 0 (t + (d + 1 - k)) k c), (75, .int .i64 k), (76, .int .i64 0)], [⟨3, 0, true, [[.int .i64 pb, .int .i64 pf, .int .i64 pk]]⟩, ⟨1, 0, true, gA E0⟩]⟩ (by
      rw [overW_zero, lE]
      (sym => simp [Qa,Qb,Qc,Qd,Qe,Qf,Qg,Qh,Qi,Qj,Qk,Ql,Qm,Qn,Qo,Qp,Qq,Qr,Qs,Qt,Qu,Qv,Qw,Qx,Qy,Qz,Q0,Q1,Q2,Q3,Q4,Q5,Q6,Q7,Q8,Q9,Xa,Xb,Xc,Xd,Xe,Xf,Xg,Xh,Xi,Xj,Xk,Xl,Xm,Xn,Xo,Xp,Xq,Xr,Xs,Xt,Xu,Xv,Xw,Xx,Xy,Xz,X0,X1,X2,X3,X4,X5,X6,X7,X8,X9,Ya,Yb,Yc,Yd,Ye,Yf,Yg,Yh,Yi,Yj,Yk,Yl,Ym,Yn,Yo,Yp,Yq,Yr,Ys,Yt,Yu,Yv,Yw,Yx,Yy,Yz,Y0,Y1,Y2,Y3,Y4,Y5,Y6,Y7,Y8,Y9,Za,Zb,Zc,Zd,Ze,Zf,Zg,Zh,Zi,Zj,Zk,Zl,Zm,Zn,Zo,Zp,Zq,Zr,Zs,Zt,Zu,Zv,Zw,Zx,Zy,Zz,Z0,Z1,Z2,Z3,Z4,Z5,Z6,Z7,Z8,Z9,Ja,Jb,Jc,Jd,Je,Jf,Jg,Jh,Ji,Jj,Jk,Jl,Jm,Jn,Jo,Jp,Jq,Jr,Js,Jt,Ju,Jv,Jw,Jx,Jy,Jz,J0,J1,J2,J3,J4,J5,J6,J7,J8,J9,Ka,Kb,Kc,Kd,Ke,Kf,Kg,Kh,Ki,Kj,Kk,Kl,Km,Kn,Ko,Kp,Kq,Kr,Ks,Kt,Ku,Kv,Kw,Kx,Ky,Kz,K0,K1,K2,K3,K4,K5,K6,K7,K8,K9,Ua,Ub,Uc,Ud,Ue,Uf,Ug,Uh,Ui,Uj,Uk,Ul,Um,Un,Uo,Up,Uq,Ur,Us,Ut,Uu,Uv,Uw,Ux,Uy,Uz,U0,U1,U2,U3,U4,U5,U6,U7,U8,U9,Va,Vb,Vc,Vd,Ve,Vf,Vg,Vh,Vi,Vj,Vk,Vl,Vm,Vn,Vo,Vp,Vq,Vr,Vs,Vt,Vu,Vv,Vw,Vx,Vy,Vz,V0,V1,V2,V3,V4,V5,V6,V7,V8,V9,Wa,Wb,Wc,Wd,We,Wf,Wg,Wh,Wi,Wj,Wk,Wl,Wm,Wn,Wo,Wp,Wq,Wr,Ws,Wt,Wu,Wv,Ww,Wx,Wy,Wz,W0,W1,W2,W3,W4,W5,W6,W7,W8,W9,Ha,Hb,Hc,Hd,He,Hf,Hg,Hh,Hi,Hj,Hk,Hl,Hm,Hn,Ho,Hp,Hq,Hr,Hs,Ht,Hu,Hv,Hw,Hx,Hy,Hz,H0,H1,H2,H3,H4,H5,H6,H7,H8,H9,Na,Nb,Nc,Nd,Ne,Nf,Ng,Nh,Ni,Nj,Nk,Nl,Nm,Nn,No,Np,Nq,Nr,Ns,Nt,Nu,Nv,Nw,Nx,Ny,Nz,N0,N1,N2,N3,N4,N5,N6,N7,N8,N9,Ba,Bb,Bc,Bd,Be,Bf,Bg,Bh,Bi,Int.natCast_zero]))
    simp only [ue, lE] at key
    have e0 := hE0.symm
    have tr : List.take g.length ((List.range g.length).map (scrC g t (t + d : Nat) n W pk)) = (List.range g.length).map (scrC g t (t + d : Nat) n W pk) := List.take_of_length_le (by simp)
    have m1 : min (d + 1 - k) (d + 1) = d + 1 - k := by omega
    have m2 : k ≤ d + 1 := hk1
    have m3 : t + k ≤ g.length := by omega
    have m4 : d + 1 ≤ g.length - t := by omega
    have m5 : t + (d + 1) ≤ g.length := by omega
    have m6 : t + k + (d + 1 - k) ≤ g.length := by omega
    have m7 : min (d + 1 - k) (g.length - (t + k)) = d + 1 - k := by omega
    (sym => simp [Qa,Qb,Qc,Qd,Qe,Qf,Qg,Qh,Qi,Qj,Qk,Ql,Qm,Qn,Qo,Qp,Qq,Qr,Qs,Qt,Qu,Qv,Qw,Qx,Qy,Qz,Q0,Q1,Q2,Q3,Q4,Q5,Q6,Q7,Q8,Q9,Xa,Xb,Xc,Xd,Xe,Xf,Xg,Xh,Xi,Xj,Xk,Xl,Xm,Xn,Xo,Xp,Xq,Xr,Xs,Xt,Xu,Xv,Xw,Xx,Xy,Xz,X0,X1,X2,X3,X4,X5,X6,X7,X8,X9,Ya,Yb,Yc,Yd,Ye,Yf,Yg,Yh,Yi,Yj,Yk,Yl,Ym,Yn,Yo,Yp,Yq,Yr,Ys,Yt,Yu,Yv,Yw,Yx,Yy,Yz,Y0,Y1,Y2,Y3,Y4,Y5,Y6,Y7,Y8,Y9,Za,Zb,Zc,Zd,Ze,Zf,Zg,Zh,Zi,Zj,Zk,Zl,Zm,Zn,Zo,Zp,Zq,Zr,Zs,Zt,Zu,Zv,Zw,Zx,Zy,Zz,Z0,Z1,Z2,Z3,Z4,Z5,Z6,Z7,Z8,Z9,Ja,Jb,Jc,Jd,Je,Jf,Jg,Jh,Ji,Jj,Jk,Jl,Jm,Jn,Jo,Jp,Jq,Jr,Js,Jt,Ju,Jv,Jw,Jx,Jy,Jz,J0,J1,J2,J3,J4,J5,J6,J7,J8,J9,Ka,Kb,Kc,Kd,Ke,Kf,Kg,Kh,Ki,Kj,Kk,Kl,Km,Kn,Ko,Kp,Kq,Kr,Ks,Kt,Ku,Kv,Kw,Kx,Ky,Kz,K0,K1,K2,K3,K4,K5,K6,K7,K8,K9,Ua,Ub,Uc,Ud,Ue,Uf,Ug,Uh,Ui,Uj,Uk,Ul,Um,Un,Uo,Up,Uq,Ur,Us,Ut,Uu,Uv,Uw,Ux,Uy,Uz,U0,U1,U2,U3,U4,U5,U6,U7,U8,U9,Va,Vb,Vc,Vd,Ve,Vf,Vg,Vh,Vi,Vj,Vk,Vl,Vm,Vn,Vo,Vp,Vq,Vr,Vs,Vt,Vu,Vv,Vw,Vx,Vy,Vz,V0,V1,V2,V3,V4,V5,V6,V7,V8,V9,Wa,Wb,Wc,Wd,We,Wf,Wg,Wh,Wi,Wj,Wk,Wl,Wm,Wn,Wo,Wp,Wq,Wr,Ws,Wt,Wu,Wv,Ww,Wx,Wy,Wz,W0,W1,W2,W3,W4,W5,W6,W7,W8,W9,Ha,Hb,Hc,Hd,He,Hf,Hg,Hh,Hi,Hj,Hk,Hl,Hm,Hn,Ho,Hp,Hq,Hr,Hs,Ht,Hu,Hv,Hw,Hx,Hy,Hz,H0,H1,H2,H3,H4,H5,H6,H7,H8,H9,Na,Nb,Nc,Nd,Ne,Nf,Ng,Nh,Ni,Nj,Nk,Nl,Nm,Nn,No,Np,Nq,Nr,Ns,Nt,Nu,Nv,Nw,Nx,Ny,Nz,N0,N1,N2,N3,N4,N5,N6,N7,N8,N9,Ba,Bb,Bc,Bd,Be,Bf,Bg,Bh,Bi,c_grid_Scroll_R0.eq_1,c_grid_Scroll_R1.eq_1,c_grid_Scroll_R2.eq_1,c_grid_Scroll_R3.eq_1,c_grid_Scroll_R4.eq_1,c_grid_Scroll_R5.eq_1,c_grid_Scroll_R6.eq_1,c_grid_Scroll_R7.eq_1,c_grid_Scroll_R8.eq_1,c_grid_Scroll_R9.eq_1,c_grid_Scroll_R10.eq_1,c_grid_Scroll_R11.eq_1,c_grid_Scroll_R12.eq_1,c_grid_Scroll_R13.eq_1,c_grid_Scroll_R14.eq_1,c_grid_Scroll_R15.eq_1,c_grid_Scroll_R16.eq_1,c_grid_Scroll_R17.eq_1,c_grid_Scroll_R18.eq_1,c_grid_Scroll.eq_1,hm,h1,hp,h2,hc,c1,c2,c3,gA_len,lm,gA_take,gA_drop,gA_app,wb,sd,a1,a2,wn,hk,mx,k0,ws,z1,z2,m1,m2,m3,m4,m5,m6,m7,List.take_take,Nat.min_self,List.length_take,List.length_drop,List.length_range,List.length_map,tr,e0,key,lE])
  · obtain ⟨k, hk⟩ : ∃ k : Nat, max (-((d + 1 : Nat) : Int)) (min n ((d + 1 : Nat) : Int)) = -(k : Int) := ⟨(-(max (-((d + 1 : Nat) : Int)) (min n ((d + 1 : Nat) : Int)))).toNat, by omega⟩
    have hk1 : k ≤ d + 1 := by omega
    have hk0 : 1 ≤ k := by omega
    have mn : min n ((d + 1 : Nat) : Int) = n := by omega
    rw [mn] at hk
    have k0 : ¬ (0 : Int) ≤ -(k : Int) := by omega
    have ng : asum .i64 (0 - -(k : Int)) = .int .i64 (k : Int) := by
      unfold asum
      rw [Int.zero_sub, Int.neg_neg, wrap_in _ (by omega) (by omega)]
    have ue := down_eq (g := g) (t := t) (d := d) (k := k) (W := W) (pk := pk) hN hk1 hk0 (n := n) (by omega)
    obtain ⟨E0, hE0⟩ : ∃ E0, E0 = (g.map fr).take (t + k) ++ (((g.map fr).drop t).take (d + 1 - k)) ++ (g.map fr).drop (t + k + (d + 1 - k)) := ⟨_, rfl⟩
    have lE : E0.length = g.length := by rw [hE0]; simp; omega
    rw [← hE0] at ue
    have key := fun c => scroll_loop G g b f pb pf pk W (by omega) hW (by omega) h2 E0 t k c (by omega) (by omega) k 0 (by omega) ⟨[(0, .data b 1 (gA g) f), (9, .ptr 0 0 0 0), (11, .own 1 0 0 g.length g.length), (12, .own 1 0 t k c), (75, .int .i64 k), (76, .int .i64 0)], [⟨3, 0, true, [[.int .i64 pb, .int .i64 pf, .int .i64 pk]]⟩, ⟨1, 0, true, gA E0⟩]⟩ (by
      rw [overW_zero, lE]
      (sym => simp [Qa,Qb,Qc,Qd,Qe,Qf,Qg,Qh,Qi,Qj,Qk,Ql,Qm,Qn,Qo,Qp,Qq,Qr,Qs,Qt,Qu,Qv,Qw,Qx,Qy,Qz,Q0,Q1,Q2,Q3,Q4,Q5,Q6,Q7,Q8,Q9,Xa,Xb,Xc,Xd,Xe,Xf,Xg,Xh,Xi,Xj,Xk,Xl,Xm,Xn,Xo,Xp,Xq,Xr,Xs,Xt,Xu,Xv,Xw,Xx,Xy,Xz,X0,X1,X2,X3,X4,X5,X6,X7,X8,X9,Ya,Yb,Yc,Yd,Ye,Yf,Yg,Yh,Yi,Yj,Yk,Yl,Ym,Yn,Yo,Yp,Yq,Yr,Ys,Yt,Yu,Yv,Yw,Yx,Yy,Yz,Y0,Y1,Y2,Y3,Y4,Y5,Y6,Y7,Y8,Y9,Za,Zb,Zc,Zd,Ze,Zf,Zg,Zh,Zi,Zj,Zk,Zl,Zm,Zn,Zo,Zp,Zq,Zr,Zs,Zt,Zu,Zv,Zw,Zx,Zy,Zz,Z0,Z1,Z2,Z3,Z4,Z5,Z6,Z7,Z8,Z9,Ja,Jb,Jc,Jd,Je,Jf,Jg,Jh,Ji,Jj,Jk,Jl,Jm,Jn,Jo,Jp,Jq,Jr,Js,Jt,Ju,Jv,Jw,Jx,Jy,Jz,J0,J1,J2,J3,J4,J5,J6,J7,J8,J9,Ka,Kb,Kc,Kd,Ke,Kf,Kg,Kh,Ki,Kj,Kk,Kl,Km,Kn,Ko,Kp,Kq,Kr,Ks,Kt,Ku,Kv,Kw,Kx,Ky,Kz,K0,K1,K2,K3,K4,K5,K6,K7,K8,K9,Ua,Ub,Uc,Ud,Ue,Uf,Ug,Uh,Ui,Uj,Uk,Ul,Um,Un,Uo,Up,Uq,Ur,Us,Ut,Uu,Uv,Uw,Ux,Uy,Uz,U0,U1,U2,U3,U4,U5,U6,U7,U8,U9,Va,Vb,Vc,Vd,Ve,Vf,Vg,Vh,Vi,Vj,Vk,Vl,Vm,Vn,Vo,Vp,Vq,Vr,Vs,Vt,Vu,Vv,Vw,Vx,Vy,Vz,V0,V1,V2,V3,V4,V5,V6,V7,V8,V9,Wa,Wb,Wc,Wd,We,Wf,Wg,Wh,Wi,Wj,Wk,Wl,Wm,Wn,Wo,Wp,Wq,Wr,Ws,Wt,Wu,Wv,Ww,Wx,Wy,Wz,W0,W1,W2,W3,W4,W5,W6,W7,W8,W9,Ha,Hb,Hc,Hd,He,Hf,Hg,Hh,Hi,Hj,Hk,Hl,Hm,Hn,Ho,Hp,Hq,Hr,Hs,Ht,Hu,Hv,Hw,Hx,Hy,Hz,H0,H1,H2,H3,H4,H5,H6,H7,H8,H9,Na,Nb,Nc,Nd,Ne,Nf,Ng,Nh,Ni,Nj,Nk,Nl,Nm,Nn,No,Np,Nq,Nr,Ns,Nt,Nu,Nv,Nw,Nx,Ny,Nz,N0,N1,N2,N3,N4,N5,N6,N7,N8,N9,Ba,Bb,Bc,Bd,Be,Bf,Bg,Bh,Bi,Int.natCast_zero]))
    simp only [ue, lE] at key
    have e0 := hE0.symm
    have tr : List.take g.length ((List.range g.length).map (scrC g t (t + d : Nat) n W pk)) = (List.range g.length).map (scrC g t (t + d : Nat) n W pk) := List.take_of_length_le (by simp)
    have m1 : min (d + 1) (d + 1 - k) = d + 1 - k := by omega
    have m2 : k ≤ d + 1 := hk1
    have m4 : d + 1 ≤ g.length - t := by omega
    have m5 : t + (d + 1) ≤ g.length := by omega
    have m6 : t + k + (d + 1 - k) ≤ g.length := by omega
    have m7 : min (d + 1 - k) (d + 1) = d + 1 - k := by omega
    have m9 : min (d + 1) (g.length - t) = d + 1 := by omega
    have m8 : k ≤ g.length - t := by omega
    (sym => simp [Qa,Qb,Qc,Qd,Qe,Qf,Qg,Qh,Qi,Qj,Qk,Ql,Qm,Qn,Qo,Qp,Qq,Qr,Qs,Qt,Qu,Qv,Qw,Qx,Qy,Qz,Q0,Q1,Q2,Q3,Q4,Q5,Q6,Q7,Q8,Q9,Xa,Xb,Xc,Xd,Xe,Xf,Xg,Xh,Xi,Xj,Xk,Xl,Xm,Xn,Xo,Xp,Xq,Xr,Xs,Xt,Xu,Xv,Xw,Xx,Xy,Xz,X0,X1,X2,X3,X4,X5,X6,X7,X8,X9,Ya,Yb,Yc,Yd,Ye,Yf,Yg,Yh,Yi,Yj,Yk,Yl,Ym,Yn,Yo,Yp,Yq,Yr,Ys,Yt,Yu,Yv,Yw,Yx,Yy,Yz,Y0,Y1,Y2,Y3,Y4,Y5,Y6,Y7,Y8,Y9,Za,Zb,Zc,Zd,Ze,Zf,Zg,Zh,Zi,Zj,Zk,Zl,Zm,Zn,Zo,Zp,Zq,Zr,Zs,Zt,Zu,Zv,Zw,Zx,Zy,Zz,Z0,Z1,Z2,Z3,Z4,Z5,Z6,Z7,Z8,Z9,Ja,Jb,Jc,Jd,Je,Jf,Jg,Jh,Ji,Jj,Jk,Jl,Jm,Jn,Jo,Jp,Jq,Jr,Js,Jt,Ju,Jv,Jw,Jx,Jy,Jz,J0,J1,J2,J3,J4,J5,J6,J7,J8,J9,Ka,Kb,Kc,Kd,Ke,Kf,Kg,Kh,Ki,Kj,Kk,Kl,Km,Kn,Ko,Kp,Kq,Kr,Ks,Kt,Ku,Kv,Kw,Kx,Ky,Kz,K0,K1,K2,K3,K4,K5,K6,K7,K8,K9,Ua,Ub,Uc,Ud,Ue,Uf,Ug,Uh,Ui,Uj,Uk,Ul,Um,Un,Uo,Up,Uq,Ur,Us,Ut,Uu,Uv,Uw,Ux,Uy,Uz,U0,U1,U2,U3,U4,U5,U6,U7,U8,U9,Va,Vb,Vc,Vd,Ve,Vf,Vg,Vh,Vi,Vj,Vk,Vl,Vm,Vn,Vo,Vp,Vq,Vr,Vs,Vt,Vu,Vv,Vw,Vx,Vy,Vz,V0,V1,V2,V3,V4,V5,V6,V7,V8,V9,Wa,Wb,Wc,Wd,We,Wf,Wg,Wh,Wi,Wj,Wk,Wl,Wm,Wn,Wo,Wp,Wq,Wr,Ws,Wt,Wu,Wv,Ww,Wx,Wy,Wz,W0,W1,W2,W3,W4,W5,W6,W7,W8,W9,Ha,Hb,Hc,Hd,He,Hf,Hg,Hh,Hi,Hj,Hk,Hl,Hm,Hn,Ho,Hp,Hq,Hr,Hs,Ht,Hu,Hv,Hw,Hx,Hy,Hz,H0,H1,H2,H3,H4,H5,H6,H7,H8,H9,Na,Nb,Nc,Nd,Ne,Nf,Ng,Nh,Ni,Nj,Nk,Nl,Nm,Nn,No,Np,Nq,Nr,Ns,Nt,Nu,Nv,Nw,Nx,Ny,Nz,N0,N1,N2,N3,N4,N5,N6,N7,N8,N9,Ba,Bb,Bc,Bd,Be,Bf,Bg,Bh,Bi,c_grid_Scroll_R0.eq_1,c_grid_Scroll_R1.eq_1,c_grid_Scroll_R2.eq_1,c_grid_Scroll_R3.eq_1,c_grid_Scroll_R4.eq_1,c_grid_Scroll_R5.eq_1,c_grid_Scroll_R6.eq_1,c_grid_Scroll_R7.eq_1,c_grid_Scroll_R8.eq_1,c_grid_Scroll_R9.eq_1,c_grid_Scroll_R10.eq_1,c_grid_Scroll_R11.eq_1,c_grid_Scroll_R12.eq_1,c_grid_Scroll_R13.eq_1,c_grid_Scroll_R14.eq_1,c_grid_Scroll_R15.eq_1,c_grid_Scroll_R16.eq_1,c_grid_Scroll_R17.eq_1,c_grid_Scroll_R18.eq_1,c_grid_Scroll.eq_1,hm,h1,hp,h2,hc,c1,c2,c3,gA_len,lm,gA_take,gA_drop,gA_app,wb,sd,a1,a2,wn,hk,mn,ng,k0,m1,m2,m4,m5,m6,m7,m8,m9,List.take_take,Nat.min_self,List.length_take,List.length_drop,List.length_range,List.length_map,tr,e0,key,lE])
end
end Go.Proofs.YtmmkjbcklghopaaDoor
