/- GridAll. Conditions: none. -/
import Derived.Test.YtmmkjbcklghopaaDoorGrE
import Derived.Test.YtmmkjbcklghopaaDoorGrD
import Derived.Test.YtmmkjbcklghopaaDoorGrA
import Derived.Test.YtmmkjbcklghopaaDoorLinF1
set_option linter.unusedVariables false
set_option linter.unusedSimpArgs false
set_option linter.unusedSectionVars false
set_option maxRecDepth 20000
set_option maxHeartbeats 4000000
namespace Go.Proofs.YtmmkjbcklghopaaDoor
open Go
theorem eraseT_all {l : List Cl} (h : mayL l = true) {b f k : Int} (hp : penB b f k = true) (h1 : 1 ≤ l.length) : eraseT l 0 l.length b f k = List.replicate l.length (blankC k) := by
  unfold eraseT
  rw [h, hp, Bool.and_true, if_pos rfl, if_neg (by omega)]
  have e1 : (max 0 (0 : Int)).toNat = 0 := rfl
  have e2 : (min (l.length : Int) l.length).toNat = l.length := by omega
  rw [e1, e2, List.take_zero, List.nil_append, List.drop_of_length_le (by rw [torn_len, torn_len]; exact Nat.le_refl _), List.append_nil, Nat.sub_zero]
theorem fitT_own {l : List Cl} (h : mayL l = true) : fitT l l.length = l := by
  have := mayL_len h
  unfold fitT
  rw [if_pos ⟨h, by omega, by omega⟩, Int.toNat_natCast, Nat.min_self, Nat.sub_self, List.replicate_zero, List.append_nil, torn_same l _ (by omega), List.take_length]
theorem fitT_more {l : List Cl} (h : mayL l = true) (c : Nat) (hc : l.length + c ≤ 1000) : fitT l ((l.length + c : Nat) : Int) = l ++ List.replicate c (blankC 0) := by
  unfold fitT
  rw [if_pos ⟨h, by omega, by omega⟩, Int.toNat_natCast, show min (l.length + c) l.length = l.length by omega, show l.length + c - l.length = c by omega, torn_same l _ (by omega), List.take_length]
theorem fitT_back {l : List Cl} (c : Nat) (h : mayL (l ++ List.replicate c (blankC 0)) = true) (hc : l.length + c ≤ 1000) : fitT (l ++ List.replicate c (blankC 0)) l.length = l := by
  unfold fitT
  have e : tornL (l ++ List.replicate c (blankC 0)) (l.length : Int) = l ++ List.replicate c (blankC 0) := by
    refine torn_same _ _ fun ⟨h1, h2, h3⟩ => ?_
    rw [Int.toNat_natCast, at_app, if_neg (by omega), Nat.sub_self] at h3
    by_cases c0 : 0 < c
    · rw [at_rep _ c0] at h3; simp [blankC] at h3
    · simp at h2; omega
  rw [if_pos ⟨h, by omega, by omega⟩, Int.toNat_natCast, e, show min l.length (l ++ List.replicate c (blankC 0)).length = l.length by simp, Nat.sub_self, List.replicate_zero, List.append_nil, List.take_left]
theorem all_same {g : List Rw} {b f k : Int} (h1 : mayG (gL g) = true) (h2 : penB b f k = true) : gL (erGT g 0 0 ((g.length : Int) - 1) (((rat g 0).1.length : Int) - 1) b f k) = gL (blankG g.length (rat g 0).1.length b f k) := by
  have hM := (mayG_iff g).1 h1
  have n1 := hM.n1
  have w1 := hM.w1
  have h : (mayG (gL g) && penB b f k) = true := by rw [h1, h2]; rfl
  have hk : (sideB g.length && (sideB (rat g 0).1.length && penB b f k)) = true := by
    have := hM.n2; have := hM.w2
    rw [h2]; simp [sideB]; omega
  have eB : blankG g.length (rat g 0).1.length b f k = blankR g.length (rat g 0).1.length k := by unfold blankG; rw [if_pos hk]; simp
  rw [eB]
  refine gL_ext (by rw [erGT_len h]; simp [blankR]) fun i hi => ?_
  rw [erGT_len h] at hi
  rw [erGT_rat h hi, blankR, rat_rep hi]
  have hpl : (plB g.length (rat g 0).1.length 0 0 && plB g.length (rat g 0).1.length ((g.length : Int) - 1) (((rat g 0).1.length : Int) - 1)) = true := by
    simp [plB]; omega
  rw [if_pos hpl]
  unfold eraC
  rw [if_pos ⟨by omega, by omega⟩]
  show eraseT _ _ _ _ _ _ = _
  have e1 : (if (i : Int) = 0 then (0 : Int) else 0) = 0 := by split <;> rfl
  have e2 : (if (i : Int) = (g.length : Int) - 1 then ((rat g 0).1.length : Int) - 1 + 1 else ((rat g 0).1.length : Int)) = ((rat g i).1.length : Int) := by
    rw [hM.len i hi]; split <;> omega
  rw [e1, e2, eraseT_all (hM.may i hi) h2 (by rw [hM.len i hi]; omega), hM.len i hi]
theorem fitGT_rat {g : List Rw} (h : mayG (gL g) = true) {R W : Nat} (r1 : 1 ≤ R) (r2 : R ≤ 200) (w1 : 1 ≤ W) (w2 : W ≤ 200) : fitGT g R W 0 = (List.range R).map (fitC g W 0) := by
  unfold fitGT
  rw [if_pos ⟨h, by simp [sideB]; omega, by simp [sideB]; omega, by omega, by omega⟩, Int.toNat_natCast, Int.toNat_natCast]
  rfl
theorem fit_own {g : List Rw} (h : mayG (gL g) = true) : gL (fitGT g g.length (rat g 0).1.length 0) = gL g := by
  have hM := (mayG_iff g).1 h
  rw [fitGT_rat h hM.n1 hM.n2 hM.w1 hM.w2]
  refine gL_ext (by simp) fun i hi => ?_
  have hi : i < g.length := by simpa using hi
  rw [rat_range _ hi]
  unfold fitC
  rw [if_pos (by omega), Nat.add_zero]
  show fitT _ _ = _
  rw [← hM.len i hi, fitT_own (hM.may i hi)]
theorem fit_more {g : List Rw} (h : mayG (gL g) = true) {r c : Nat} (hr : g.length + r ≤ 200) (hc : (rat g 0).1.length + c ≤ 200) :
    mayG (gL (fitGT g ((g.length + r : Nat) : Int) (((rat g 0).1.length + c : Nat) : Int) 0)) = true ∧ gL (fitGT (fitGT g ((g.length + r : Nat) : Int) (((rat g 0).1.length + c : Nat) : Int) 0) g.length (rat g 0).1.length 0) = gL g ∧ (fitGT g ((g.length + r : Nat) : Int) (((rat g 0).1.length + c : Nat) : Int) 0).length = g.length + r := by
  have hM := (mayG_iff g).1 h
  have n1 := hM.n1
  have w1 := hM.w1
  have e := fitGT_rat h (R := g.length + r) (W := (rat g 0).1.length + c) (by omega) hr (by omega) hc
  obtain ⟨X, hX⟩ : ∃ X, X = fitGT g ((g.length + r : Nat) : Int) (((rat g 0).1.length + c : Nat) : Int) 0 := ⟨_, rfl⟩
  rw [← hX] at e ⊢
  have lX : X.length = g.length + r := by rw [e]; simp
  have rX : ∀ i, i < g.length + r → (rat X i).1 = if i < g.length then (rat g i).1 ++ List.replicate c (blankC 0) else List.replicate ((rat g 0).1.length + c) (blankC 0) := by
    intro i hi
    rw [e, rat_range _ hi]
    unfold fitC
    rw [Nat.add_zero]
    by_cases k : i < g.length
    · rw [if_pos k, if_pos k]
      show fitT _ _ = _
      rw [← hM.len i k, fitT_more (hM.may i k) c (by rw [hM.len i k]; omega)]
    · rw [if_neg k, if_neg k]
  have mX : MayR X ((rat g 0).1.length + c) := by
    refine ⟨by omega, by omega, by omega, hc, fun i hi => ?_, fun i hi => ?_⟩
    · rw [rX i (by omega)]
      split
      · rename_i k
        rw [List.length_append, hM.len i k, List.length_replicate]
      · simp
    · rw [rX i (by omega)]
      split
      · rename_i k
        have := (fit_may (hM.may i k) (((rat g 0).1.length + c : Nat) : Int)).1
        rw [← hM.len i k, fitT_more (hM.may i k) c (by rw [hM.len i k]; omega)] at this
        exact this
      · exact blanks_may (by decide) (by omega)
  have wX : (rat X 0).1.length = (rat g 0).1.length + c := mX.len 0 (by omega)
  have hmX : mayG (gL X) = true := (mayG_iff X).2 (by rw [wX]; exact mX)
  refine ⟨hmX, ?_, lX⟩
  rw [fitGT_rat hmX n1 (by omega) w1 (by omega)]
  refine gL_ext (by simp) fun i hi => ?_
  have hi : i < g.length := by simpa using hi
  rw [rat_range _ hi]
  unfold fitC
  rw [Nat.add_zero, if_pos (by omega)]
  show fitT (rat X i).1 _ = _
  have e2 := rX i (by omega)
  rw [if_pos hi] at e2
  have hm := mX.may i (by omega)
  rw [e2] at hm ⊢
  rw [← hM.len i hi, fitT_back c hm (by rw [hM.len i hi]; omega)]
theorem fitGT_lo {g : List Rw} (rows cols gone : Int) : Lo (fitGT g rows cols gone) := by
  unfold fitGT
  split
  · rename_i h
    obtain ⟨_, h1, h2, _⟩ := h
    obtain ⟨R, rfl, r1, r2⟩ := sideB_nat h1
    obtain ⟨W, rfl, w1, w2⟩ := sideB_nat h2
    rw [Int.toNat_natCast, Int.toNat_natCast]
    refine ⟨by simp; omega, fun i hi => ?_⟩
    have hi : i < R := by simpa using hi
    rw [rat_range _ hi]
    unfold fitC
    split
    · by_cases hm : mayL (rat g (i + gone.toNat)).1 = true
      · have := (fit_may hm (W : Int)).2 (by omega) (by omega)
        show (fitT _ _).length ≤ _
        omega
      · unfold fitT
        rw [if_neg (fun h => hm h.1)]; simp
    · simp; omega
  · exact ⟨by simp, fun i hi => by simp at hi⟩
theorem gridAll_P (g : List Rw) (f : Bool) (rows cols pb pf pk : Int) : aP G13 FT n_law15_GridAll [.data false 1 (gA g) f, .int .i64 rows, .int .i64 cols, .agg [.int .i64 pb, .int .i64 pf, .int .i64 pk]] = some (.bool true) := by
  have hK := known15_P
  have hgr := great_P G13 g false f
  unfold aP
  rw [run_law15_GridAll]
  cases h1 : greatB g
  case true => (sym => simp [Qa,Qb,Qc,Qd,Qe,Qf,Qg,Qh,Qi,Qj,Qk,Ql,Qm,Qn,Qo,Qp,Qq,Qr,Qs,Qt,Qu,Qv,Qw,Qx,Qy,Qz,Q0,Q1,Q2,Q3,Q4,Q5,Q6,Q7,Q8,Q9,Xa,Xb,Xc,Xd,Xe,Xf,Xg,Xh,Xi,Xj,Xk,Xl,Xm,Xn,Xo,Xp,Xq,Xr,Xs,Xt,Xu,Xv,Xw,Xx,Xy,Xz,X0,X1,X2,X3,X4,X5,X6,X7,X8,X9,Ya,Yb,Yc,Yd,Ye,Yf,Yg,Yh,Yi,Yj,Yk,Yl,Ym,Yn,Yo,Yp,Yq,Yr,Ys,Yt,Yu,Yv,Yw,Yx,Yy,Yz,Y0,Y1,Y2,Y3,Y4,Y5,Y6,Y7,Y8,Y9,Za,Zb,Zc,Zd,Ze,Zf,Zg,Zh,Zi,Zj,Zk,Zl,Zm,Zn,Zo,Zp,Zq,Zr,Zs,Zt,Zu,Zv,Zw,Zx,Zy,Zz,Z0,Z1,Z2,Z3,Z4,Z5,Z6,Z7,Z8,Z9,Ja,Jb,Jc,Jd,Je,Jf,Jg,Jh,Ji,Jj,Jk,Jl,Jm,Jn,Jo,Jp,Jq,Jr,Js,Jt,Ju,Jv,Jw,Jx,Jy,Jz,J0,J1,J2,J3,J4,J5,J6,J7,J8,J9,Ka,Kb,Kc,Kd,Ke,Kf,Kg,Kh,Ki,Kj,Kk,Kl,Km,Kn,Ko,Kp,Kq,Kr,Ks,Kt,Ku,Kv,Kw,Kx,Ky,Kz,K0,K1,K2,K3,K4,K5,K6,K7,K8,K9,Ua,Ub,Uc,Ud,Ue,Uf,Ug,Uh,Ui,Uj,Uk,Ul,Um,Un,Uo,Up,Uq,Ur,Us,Ut,Uu,Uv,Uw,Ux,Uy,Uz,U0,U1,U2,U3,U4,U5,U6,U7,U8,U9,Va,Vb,Vc,Vd,Ve,Vf,Vg,Vh,Vi,Vj,Vk,Vl,Vm,Vn,Vo,Vp,Vq,Vr,Vs,Vt,Vu,Vv,Vw,Vx,Vy,Vz,V0,V1,V2,V3,V4,V5,V6,V7,V8,V9,Wa,Wb,Wc,Wd,We,Wf,Wg,Wh,Wi,Wj,Wk,Wl,Wm,Wn,Wo,Wp,Wq,Wr,Ws,Wt,Wu,Wv,Ww,Wx,Wy,Wz,W0,W1,W2,W3,W4,W5,W6,W7,W8,W9,Ha,Hb,Hc,Hd,He,Hf,Hg,Hh,Hi,Hj,Hk,Hl,Hm,Hn,Ho,Hp,Hq,Hr,Hs,Ht,Hu,Hv,Hw,Hx,Hy,Hz,H0,H1,H2,H3,H4,H5,H6,H7,H8,H9,Na,Nb,Nc,Nd,Ne,Nf,Ng,Nh,Ni,Nj,Nk,Nl,Nm,Nn,No,Np,Nq,Nr,Ns,Nt,Nu,Nv,Nw,Nx,Ny,Nz,N0,N1,N2,N3,N4,N5,N6,N7,N8,N9,Ba,Bb,Bc,Bd,Be,Bf,Bg,Bh,Bi,c_law15_GridAll_R0.eq_1,c_law15_GridAll_R1.eq_1,c_law15_GridAll_R2.eq_1,c_law15_GridAll_R3.eq_1,c_law15_GridAll_R4.eq_1,c_law15_GridAll_R5.eq_1,c_law15_GridAll_R6.eq_1,c_law15_GridAll_R7.eq_1,c_law15_GridAll_R8.eq_1,c_law15_GridAll_R9.eq_1,c_law15_GridAll_R10.eq_1,c_law15_GridAll_R11.eq_1,c_law15_GridAll.eq_1,hK,hgr,h1])
  obtain ⟨hlo, h210, _⟩ := great_lo g h1
  have hm := mayG_P G13 G13_0 g false f hlo
  cases h2 : mayG (gL g)
  · (sym => simp [Qa,Qb,Qc,Qd,Qe,Qf,Qg,Qh,Qi,Qj,Qk,Ql,Qm,Qn,Qo,Qp,Qq,Qr,Qs,Qt,Qu,Qv,Qw,Qx,Qy,Qz,Q0,Q1,Q2,Q3,Q4,Q5,Q6,Q7,Q8,Q9,Xa,Xb,Xc,Xd,Xe,Xf,Xg,Xh,Xi,Xj,Xk,Xl,Xm,Xn,Xo,Xp,Xq,Xr,Xs,Xt,Xu,Xv,Xw,Xx,Xy,Xz,X0,X1,X2,X3,X4,X5,X6,X7,X8,X9,Ya,Yb,Yc,Yd,Ye,Yf,Yg,Yh,Yi,Yj,Yk,Yl,Ym,Yn,Yo,Yp,Yq,Yr,Ys,Yt,Yu,Yv,Yw,Yx,Yy,Yz,Y0,Y1,Y2,Y3,Y4,Y5,Y6,Y7,Y8,Y9,Za,Zb,Zc,Zd,Ze,Zf,Zg,Zh,Zi,Zj,Zk,Zl,Zm,Zn,Zo,Zp,Zq,Zr,Zs,Zt,Zu,Zv,Zw,Zx,Zy,Zz,Z0,Z1,Z2,Z3,Z4,Z5,Z6,Z7,Z8,Z9,Ja,Jb,Jc,Jd,Je,Jf,Jg,Jh,Ji,Jj,Jk,Jl,Jm,Jn,Jo,Jp,Jq,Jr,Js,Jt,Ju,Jv,Jw,Jx,Jy,Jz,J0,J1,J2,J3,J4,J5,J6,J7,J8,J9,Ka,Kb,Kc,Kd,Ke,Kf,Kg,Kh,Ki,Kj,Kk,Kl,Km,Kn,Ko,Kp,Kq,Kr,Ks,Kt,Ku,Kv,Kw,Kx,Ky,Kz,K0,K1,K2,K3,K4,K5,K6,K7,K8,K9,Ua,Ub,Uc,Ud,Ue,Uf,Ug,Uh,Ui,Uj,Uk,Ul,Um,Un,Uo,Up,Uq,Ur,Us,Ut,Uu,Uv,Uw,Ux,Uy,Uz,U0,U1,U2,U3,U4,U5,U6,U7,U8,U9,Va,Vb,Vc,Vd,Ve,Vf,Vg,Vh,Vi,Vj,Vk,Vl,Vm,Vn,Vo,Vp,Vq,Vr,Vs,Vt,Vu,Vv,Vw,Vx,Vy,Vz,V0,V1,V2,V3,V4,V5,V6,V7,V8,V9,Wa,Wb,Wc,Wd,We,Wf,Wg,Wh,Wi,Wj,Wk,Wl,Wm,Wn,Wo,Wp,Wq,Wr,Ws,Wt,Wu,Wv,Ww,Wx,Wy,Wz,W0,W1,W2,W3,W4,W5,W6,W7,W8,W9,Ha,Hb,Hc,Hd,He,Hf,Hg,Hh,Hi,Hj,Hk,Hl,Hm,Hn,Ho,Hp,Hq,Hr,Hs,Ht,Hu,Hv,Hw,Hx,Hy,Hz,H0,H1,H2,H3,H4,H5,H6,H7,H8,H9,Na,Nb,Nc,Nd,Ne,Nf,Ng,Nh,Ni,Nj,Nk,Nl,Nm,Nn,No,Np,Nq,Nr,Ns,Nt,Nu,Nv,Nw,Nx,Ny,Nz,N0,N1,N2,N3,N4,N5,N6,N7,N8,N9,Ba,Bb,Bc,Bd,Be,Bf,Bg,Bh,Bi,c_law15_GridAll_R0.eq_1,c_law15_GridAll_R1.eq_1,c_law15_GridAll_R2.eq_1,c_law15_GridAll_R3.eq_1,c_law15_GridAll_R4.eq_1,c_law15_GridAll_R5.eq_1,c_law15_GridAll_R6.eq_1,c_law15_GridAll_R7.eq_1,c_law15_GridAll_R8.eq_1,c_law15_GridAll_R9.eq_1,c_law15_GridAll_R10.eq_1,c_law15_GridAll_R11.eq_1,c_law15_GridAll.eq_1,hK,hgr,h1,hm,h2])
  by_cases c1 : rows < 0
  · (sym => simp [Qa,Qb,Qc,Qd,Qe,Qf,Qg,Qh,Qi,Qj,Qk,Ql,Qm,Qn,Qo,Qp,Qq,Qr,Qs,Qt,Qu,Qv,Qw,Qx,Qy,Qz,Q0,Q1,Q2,Q3,Q4,Q5,Q6,Q7,Q8,Q9,Xa,Xb,Xc,Xd,Xe,Xf,Xg,Xh,Xi,Xj,Xk,Xl,Xm,Xn,Xo,Xp,Xq,Xr,Xs,Xt,Xu,Xv,Xw,Xx,Xy,Xz,X0,X1,X2,X3,X4,X5,X6,X7,X8,X9,Ya,Yb,Yc,Yd,Ye,Yf,Yg,Yh,Yi,Yj,Yk,Yl,Ym,Yn,Yo,Yp,Yq,Yr,Ys,Yt,Yu,Yv,Yw,Yx,Yy,Yz,Y0,Y1,Y2,Y3,Y4,Y5,Y6,Y7,Y8,Y9,Za,Zb,Zc,Zd,Ze,Zf,Zg,Zh,Zi,Zj,Zk,Zl,Zm,Zn,Zo,Zp,Zq,Zr,Zs,Zt,Zu,Zv,Zw,Zx,Zy,Zz,Z0,Z1,Z2,Z3,Z4,Z5,Z6,Z7,Z8,Z9,Ja,Jb,Jc,Jd,Je,Jf,Jg,Jh,Ji,Jj,Jk,Jl,Jm,Jn,Jo,Jp,Jq,Jr,Js,Jt,Ju,Jv,Jw,Jx,Jy,Jz,J0,J1,J2,J3,J4,J5,J6,J7,J8,J9,Ka,Kb,Kc,Kd,Ke,Kf,Kg,Kh,Ki,Kj,Kk,Kl,Km,Kn,Ko,Kp,Kq,Kr,Ks,Kt,Ku,Kv,Kw,Kx,Ky,Kz,K0,K1,K2,K3,K4,K5,K6,K7,K8,K9,Ua,Ub,Uc,Ud,Ue,Uf,Ug,Uh,Ui,Uj,Uk,Ul,Um,Un,Uo,Up,Uq,Ur,Us,Ut,Uu,Uv,Uw,Ux,Uy,Uz,U0,U1,U2,U3,U4,U5,U6,U7,U8,U9,Va,Vb,Vc,Vd,Ve,Vf,Vg,Vh,Vi,Vj,Vk,Vl,Vm,Vn,Vo,Vp,Vq,Vr,Vs,Vt,Vu,Vv,Vw,Vx,Vy,Vz,V0,V1,V2,V3,V4,V5,V6,V7,V8,V9,Wa,Wb,Wc,Wd,We,Wf,Wg,Wh,Wi,Wj,Wk,Wl,Wm,Wn,Wo,Wp,Wq,Wr,Ws,Wt,Wu,Wv,Ww,Wx,Wy,Wz,W0,W1,W2,W3,W4,W5,W6,W7,W8,W9,Ha,Hb,Hc,Hd,He,Hf,Hg,Hh,Hi,Hj,Hk,Hl,Hm,Hn,Ho,Hp,Hq,Hr,Hs,Ht,Hu,Hv,Hw,Hx,Hy,Hz,H0,H1,H2,H3,H4,H5,H6,H7,H8,H9,Na,Nb,Nc,Nd,Ne,Nf,Ng,Nh,Ni,Nj,Nk,Nl,Nm,Nn,No,Np,Nq,Nr,Ns,Nt,Nu,Nv,Nw,Nx,Ny,Nz,N0,N1,N2,N3,N4,N5,N6,N7,N8,N9,Ba,Bb,Bc,Bd,Be,Bf,Bg,Bh,Bi,c_law15_GridAll_R0.eq_1,c_law15_GridAll_R1.eq_1,c_law15_GridAll_R2.eq_1,c_law15_GridAll_R3.eq_1,c_law15_GridAll_R4.eq_1,c_law15_GridAll_R5.eq_1,c_law15_GridAll_R6.eq_1,c_law15_GridAll_R7.eq_1,c_law15_GridAll_R8.eq_1,c_law15_GridAll_R9.eq_1,c_law15_GridAll_R10.eq_1,c_law15_GridAll_R11.eq_1,c_law15_GridAll.eq_1,hK,hgr,h1,hm,h2,c1])
  by_cases c2 : 20 < rows
  · (sym => simp [Qa,Qb,Qc,Qd,Qe,Qf,Qg,Qh,Qi,Qj,Qk,Ql,Qm,Qn,Qo,Qp,Qq,Qr,Qs,Qt,Qu,Qv,Qw,Qx,Qy,Qz,Q0,Q1,Q2,Q3,Q4,Q5,Q6,Q7,Q8,Q9,Xa,Xb,Xc,Xd,Xe,Xf,Xg,Xh,Xi,Xj,Xk,Xl,Xm,Xn,Xo,Xp,Xq,Xr,Xs,Xt,Xu,Xv,Xw,Xx,Xy,Xz,X0,X1,X2,X3,X4,X5,X6,X7,X8,X9,Ya,Yb,Yc,Yd,Ye,Yf,Yg,Yh,Yi,Yj,Yk,Yl,Ym,Yn,Yo,Yp,Yq,Yr,Ys,Yt,Yu,Yv,Yw,Yx,Yy,Yz,Y0,Y1,Y2,Y3,Y4,Y5,Y6,Y7,Y8,Y9,Za,Zb,Zc,Zd,Ze,Zf,Zg,Zh,Zi,Zj,Zk,Zl,Zm,Zn,Zo,Zp,Zq,Zr,Zs,Zt,Zu,Zv,Zw,Zx,Zy,Zz,Z0,Z1,Z2,Z3,Z4,Z5,Z6,Z7,Z8,Z9,Ja,Jb,Jc,Jd,Je,Jf,Jg,Jh,Ji,Jj,Jk,Jl,Jm,Jn,Jo,Jp,Jq,Jr,Js,Jt,Ju,Jv,Jw,Jx,Jy,Jz,J0,J1,J2,J3,J4,J5,J6,J7,J8,J9,Ka,Kb,Kc,Kd,Ke,Kf,Kg,Kh,Ki,Kj,Kk,Kl,Km,Kn,Ko,Kp,Kq,Kr,Ks,Kt,Ku,Kv,Kw,Kx,Ky,Kz,K0,K1,K2,K3,K4,K5,K6,K7,K8,K9,Ua,Ub,Uc,Ud,Ue,Uf,Ug,Uh,Ui,Uj,Uk,Ul,Um,Un,Uo,Up,Uq,Ur,Us,Ut,Uu,Uv,Uw,Ux,Uy,Uz,U0,U1,U2,U3,U4,U5,U6,U7,U8,U9,Va,Vb,Vc,Vd,Ve,Vf,Vg,Vh,Vi,Vj,Vk,Vl,Vm,Vn,Vo,Vp,Vq,Vr,Vs,Vt,Vu,Vv,Vw,Vx,Vy,Vz,V0,V1,V2,V3,V4,V5,V6,V7,V8,V9,Wa,Wb,Wc,Wd,We,Wf,Wg,Wh,Wi,Wj,Wk,Wl,Wm,Wn,Wo,Wp,Wq,Wr,Ws,Wt,Wu,Wv,Ww,Wx,Wy,Wz,W0,W1,W2,W3,W4,W5,W6,W7,W8,W9,Ha,Hb,Hc,Hd,He,Hf,Hg,Hh,Hi,Hj,Hk,Hl,Hm,Hn,Ho,Hp,Hq,Hr,Hs,Ht,Hu,Hv,Hw,Hx,Hy,Hz,H0,H1,H2,H3,H4,H5,H6,H7,H8,H9,Na,Nb,Nc,Nd,Ne,Nf,Ng,Nh,Ni,Nj,Nk,Nl,Nm,Nn,No,Np,Nq,Nr,Ns,Nt,Nu,Nv,Nw,Nx,Ny,Nz,N0,N1,N2,N3,N4,N5,N6,N7,N8,N9,Ba,Bb,Bc,Bd,Be,Bf,Bg,Bh,Bi,c_law15_GridAll_R0.eq_1,c_law15_GridAll_R1.eq_1,c_law15_GridAll_R2.eq_1,c_law15_GridAll_R3.eq_1,c_law15_GridAll_R4.eq_1,c_law15_GridAll_R5.eq_1,c_law15_GridAll_R6.eq_1,c_law15_GridAll_R7.eq_1,c_law15_GridAll_R8.eq_1,c_law15_GridAll_R9.eq_1,c_law15_GridAll_R10.eq_1,c_law15_GridAll_R11.eq_1,c_law15_GridAll.eq_1,hK,hgr,h1,hm,h2,c1,c2])
  by_cases c3 : cols < 0
  · (sym => simp [Qa,Qb,Qc,Qd,Qe,Qf,Qg,Qh,Qi,Qj,Qk,Ql,Qm,Qn,Qo,Qp,Qq,Qr,Qs,Qt,Qu,Qv,Qw,Qx,Qy,Qz,Q0,Q1,Q2,Q3,Q4,Q5,Q6,Q7,Q8,Q9,Xa,Xb,Xc,Xd,Xe,Xf,Xg,Xh,Xi,Xj,Xk,Xl,Xm,Xn,Xo,Xp,Xq,Xr,Xs,Xt,Xu,Xv,Xw,Xx,Xy,Xz,X0,X1,X2,X3,X4,X5,X6,X7,X8,X9,Ya,Yb,Yc,Yd,Ye,Yf,Yg,Yh,Yi,Yj,Yk,Yl,Ym,Yn,Yo,Yp,Yq,Yr,Ys,Yt,Yu,Yv,Yw,Yx,Yy,Yz,Y0,Y1,Y2,Y3,Y4,Y5,Y6,Y7,Y8,Y9,Za,Zb,Zc,Zd,Ze,Zf,Zg,Zh,Zi,Zj,Zk,Zl,Zm,Zn,Zo,Zp,Zq,Zr,Zs,Zt,Zu,Zv,Zw,Zx,Zy,Zz,Z0,Z1,Z2,Z3,Z4,Z5,Z6,Z7,Z8,Z9,Ja,Jb,Jc,Jd,Je,Jf,Jg,Jh,Ji,Jj,Jk,Jl,Jm,Jn,Jo,Jp,Jq,Jr,Js,Jt,Ju,Jv,Jw,Jx,Jy,Jz,J0,J1,J2,J3,J4,J5,J6,J7,J8,J9,Ka,Kb,Kc,Kd,Ke,Kf,Kg,Kh,Ki,Kj,Kk,Kl,Km,Kn,Ko,Kp,Kq,Kr,Ks,Kt,Ku,Kv,Kw,Kx,Ky,Kz,K0,K1,K2,K3,K4,K5,K6,K7,K8,K9,Ua,Ub,Uc,Ud,Ue,Uf,Ug,Uh,Ui,Uj,Uk,Ul,Um,Un,Uo,Up,Uq,Ur,Us,Ut,Uu,Uv,Uw,Ux,Uy,Uz,U0,U1,U2,U3,U4,U5,U6,U7,U8,U9,Va,Vb,Vc,Vd,Ve,Vf,Vg,Vh,Vi,Vj,Vk,Vl,Vm,Vn,Vo,Vp,Vq,Vr,Vs,Vt,Vu,Vv,Vw,Vx,Vy,Vz,V0,V1,V2,V3,V4,V5,V6,V7,V8,V9,Wa,Wb,Wc,Wd,We,Wf,Wg,Wh,Wi,Wj,Wk,Wl,Wm,Wn,Wo,Wp,Wq,Wr,Ws,Wt,Wu,Wv,Ww,Wx,Wy,Wz,W0,W1,W2,W3,W4,W5,W6,W7,W8,W9,Ha,Hb,Hc,Hd,He,Hf,Hg,Hh,Hi,Hj,Hk,Hl,Hm,Hn,Ho,Hp,Hq,Hr,Hs,Ht,Hu,Hv,Hw,Hx,Hy,Hz,H0,H1,H2,H3,H4,H5,H6,H7,H8,H9,Na,Nb,Nc,Nd,Ne,Nf,Ng,Nh,Ni,Nj,Nk,Nl,Nm,Nn,No,Np,Nq,Nr,Ns,Nt,Nu,Nv,Nw,Nx,Ny,Nz,N0,N1,N2,N3,N4,N5,N6,N7,N8,N9,Ba,Bb,Bc,Bd,Be,Bf,Bg,Bh,Bi,c_law15_GridAll_R0.eq_1,c_law15_GridAll_R1.eq_1,c_law15_GridAll_R2.eq_1,c_law15_GridAll_R3.eq_1,c_law15_GridAll_R4.eq_1,c_law15_GridAll_R5.eq_1,c_law15_GridAll_R6.eq_1,c_law15_GridAll_R7.eq_1,c_law15_GridAll_R8.eq_1,c_law15_GridAll_R9.eq_1,c_law15_GridAll_R10.eq_1,c_law15_GridAll_R11.eq_1,c_law15_GridAll.eq_1,hK,hgr,h1,hm,h2,c1,c2,c3])
  by_cases c4 : 20 < cols
  · (sym => simp [Qa,Qb,Qc,Qd,Qe,Qf,Qg,Qh,Qi,Qj,Qk,Ql,Qm,Qn,Qo,Qp,Qq,Qr,Qs,Qt,Qu,Qv,Qw,Qx,Qy,Qz,Q0,Q1,Q2,Q3,Q4,Q5,Q6,Q7,Q8,Q9,Xa,Xb,Xc,Xd,Xe,Xf,Xg,Xh,Xi,Xj,Xk,Xl,Xm,Xn,Xo,Xp,Xq,Xr,Xs,Xt,Xu,Xv,Xw,Xx,Xy,Xz,X0,X1,X2,X3,X4,X5,X6,X7,X8,X9,Ya,Yb,Yc,Yd,Ye,Yf,Yg,Yh,Yi,Yj,Yk,Yl,Ym,Yn,Yo,Yp,Yq,Yr,Ys,Yt,Yu,Yv,Yw,Yx,Yy,Yz,Y0,Y1,Y2,Y3,Y4,Y5,Y6,Y7,Y8,Y9,Za,Zb,Zc,Zd,Ze,Zf,Zg,Zh,Zi,Zj,Zk,Zl,Zm,Zn,Zo,Zp,Zq,Zr,Zs,Zt,Zu,Zv,Zw,Zx,Zy,Zz,Z0,Z1,Z2,Z3,Z4,Z5,Z6,Z7,Z8,Z9,Ja,Jb,Jc,Jd,Je,Jf,Jg,Jh,Ji,Jj,Jk,Jl,Jm,Jn,Jo,Jp,Jq,Jr,Js,Jt,Ju,Jv,Jw,Jx,Jy,Jz,J0,J1,J2,J3,J4,J5,J6,J7,J8,J9,Ka,Kb,Kc,Kd,Ke,Kf,Kg,Kh,Ki,Kj,Kk,Kl,Km,Kn,Ko,Kp,Kq,Kr,Ks,Kt,Ku,Kv,Kw,Kx,Ky,Kz,K0,K1,K2,K3,K4,K5,K6,K7,K8,K9,Ua,Ub,Uc,Ud,Ue,Uf,Ug,Uh,Ui,Uj,Uk,Ul,Um,Un,Uo,Up,Uq,Ur,Us,Ut,Uu,Uv,Uw,Ux,Uy,Uz,U0,U1,U2,U3,U4,U5,U6,U7,U8,U9,Va,Vb,Vc,Vd,Ve,Vf,Vg,Vh,Vi,Vj,Vk,Vl,Vm,Vn,Vo,Vp,Vq,Vr,Vs,Vt,Vu,Vv,Vw,Vx,Vy,Vz,V0,V1,V2,V3,V4,V5,V6,V7,V8,V9,Wa,Wb,Wc,Wd,We,Wf,Wg,Wh,Wi,Wj,Wk,Wl,Wm,Wn,Wo,Wp,Wq,Wr,Ws,Wt,Wu,Wv,Ww,Wx,Wy,Wz,W0,W1,W2,W3,W4,W5,W6,W7,W8,W9,Ha,Hb,Hc,Hd,He,Hf,Hg,Hh,Hi,Hj,Hk,Hl,Hm,Hn,Ho,Hp,Hq,Hr,Hs,Ht,Hu,Hv,Hw,Hx,Hy,Hz,H0,H1,H2,H3,H4,H5,H6,H7,H8,H9,Na,Nb,Nc,Nd,Ne,Nf,Ng,Nh,Ni,Nj,Nk,Nl,Nm,Nn,No,Np,Nq,Nr,Ns,Nt,Nu,Nv,Nw,Nx,Ny,Nz,N0,N1,N2,N3,N4,N5,N6,N7,N8,N9,Ba,Bb,Bc,Bd,Be,Bf,Bg,Bh,Bi,c_law15_GridAll_R0.eq_1,c_law15_GridAll_R1.eq_1,c_law15_GridAll_R2.eq_1,c_law15_GridAll_R3.eq_1,c_law15_GridAll_R4.eq_1,c_law15_GridAll_R5.eq_1,c_law15_GridAll_R6.eq_1,c_law15_GridAll_R7.eq_1,c_law15_GridAll_R8.eq_1,c_law15_GridAll_R9.eq_1,c_law15_GridAll_R10.eq_1,c_law15_GridAll_R11.eq_1,c_law15_GridAll.eq_1,hK,hgr,h1,hm,h2,c1,c2,c3,c4])
  by_cases c5 : pb < 0
  · (sym => simp [Qa,Qb,Qc,Qd,Qe,Qf,Qg,Qh,Qi,Qj,Qk,Ql,Qm,Qn,Qo,Qp,Qq,Qr,Qs,Qt,Qu,Qv,Qw,Qx,Qy,Qz,Q0,Q1,Q2,Q3,Q4,Q5,Q6,Q7,Q8,Q9,Xa,Xb,Xc,Xd,Xe,Xf,Xg,Xh,Xi,Xj,Xk,Xl,Xm,Xn,Xo,Xp,Xq,Xr,Xs,Xt,Xu,Xv,Xw,Xx,Xy,Xz,X0,X1,X2,X3,X4,X5,X6,X7,X8,X9,Ya,Yb,Yc,Yd,Ye,Yf,Yg,Yh,Yi,Yj,Yk,Yl,Ym,Yn,Yo,Yp,Yq,Yr,Ys,Yt,Yu,Yv,Yw,Yx,Yy,Yz,Y0,Y1,Y2,Y3,Y4,Y5,Y6,Y7,Y8,Y9,Za,Zb,Zc,Zd,Ze,Zf,Zg,Zh,Zi,Zj,Zk,Zl,Zm,Zn,Zo,Zp,Zq,Zr,Zs,Zt,Zu,Zv,Zw,Zx,Zy,Zz,Z0,Z1,Z2,Z3,Z4,Z5,Z6,Z7,Z8,Z9,Ja,Jb,Jc,Jd,Je,Jf,Jg,Jh,Ji,Jj,Jk,Jl,Jm,Jn,Jo,Jp,Jq,Jr,Js,Jt,Ju,Jv,Jw,Jx,Jy,Jz,J0,J1,J2,J3,J4,J5,J6,J7,J8,J9,Ka,Kb,Kc,Kd,Ke,Kf,Kg,Kh,Ki,Kj,Kk,Kl,Km,Kn,Ko,Kp,Kq,Kr,Ks,Kt,Ku,Kv,Kw,Kx,Ky,Kz,K0,K1,K2,K3,K4,K5,K6,K7,K8,K9,Ua,Ub,Uc,Ud,Ue,Uf,Ug,Uh,Ui,Uj,Uk,Ul,Um,Un,Uo,Up,Uq,Ur,Us,Ut,Uu,Uv,Uw,Ux,Uy,Uz,U0,U1,U2,U3,U4,U5,U6,U7,U8,U9,Va,Vb,Vc,Vd,Ve,Vf,Vg,Vh,Vi,Vj,Vk,Vl,Vm,Vn,Vo,Vp,Vq,Vr,Vs,Vt,Vu,Vv,Vw,Vx,Vy,Vz,V0,V1,V2,V3,V4,V5,V6,V7,V8,V9,Wa,Wb,Wc,Wd,We,Wf,Wg,Wh,Wi,Wj,Wk,Wl,Wm,Wn,Wo,Wp,Wq,Wr,Ws,Wt,Wu,Wv,Ww,Wx,Wy,Wz,W0,W1,W2,W3,W4,W5,W6,W7,W8,W9,Ha,Hb,Hc,Hd,He,Hf,Hg,Hh,Hi,Hj,Hk,Hl,Hm,Hn,Ho,Hp,Hq,Hr,Hs,Ht,Hu,Hv,Hw,Hx,Hy,Hz,H0,H1,H2,H3,H4,H5,H6,H7,H8,H9,Na,Nb,Nc,Nd,Ne,Nf,Ng,Nh,Ni,Nj,Nk,Nl,Nm,Nn,No,Np,Nq,Nr,Ns,Nt,Nu,Nv,Nw,Nx,Ny,Nz,N0,N1,N2,N3,N4,N5,N6,N7,N8,N9,Ba,Bb,Bc,Bd,Be,Bf,Bg,Bh,Bi,c_law15_GridAll_R0.eq_1,c_law15_GridAll_R1.eq_1,c_law15_GridAll_R2.eq_1,c_law15_GridAll_R3.eq_1,c_law15_GridAll_R4.eq_1,c_law15_GridAll_R5.eq_1,c_law15_GridAll_R6.eq_1,c_law15_GridAll_R7.eq_1,c_law15_GridAll_R8.eq_1,c_law15_GridAll_R9.eq_1,c_law15_GridAll_R10.eq_1,c_law15_GridAll_R11.eq_1,c_law15_GridAll.eq_1,hK,hgr,h1,hm,h2,c1,c2,c3,c4,c5])
  by_cases c6 : 255 < pb
  · (sym => simp [Qa,Qb,Qc,Qd,Qe,Qf,Qg,Qh,Qi,Qj,Qk,Ql,Qm,Qn,Qo,Qp,Qq,Qr,Qs,Qt,Qu,Qv,Qw,Qx,Qy,Qz,Q0,Q1,Q2,Q3,Q4,Q5,Q6,Q7,Q8,Q9,Xa,Xb,Xc,Xd,Xe,Xf,Xg,Xh,Xi,Xj,Xk,Xl,Xm,Xn,Xo,Xp,Xq,Xr,Xs,Xt,Xu,Xv,Xw,Xx,Xy,Xz,X0,X1,X2,X3,X4,X5,X6,X7,X8,X9,Ya,Yb,Yc,Yd,Ye,Yf,Yg,Yh,Yi,Yj,Yk,Yl,Ym,Yn,Yo,Yp,Yq,Yr,Ys,Yt,Yu,Yv,Yw,Yx,Yy,Yz,Y0,Y1,Y2,Y3,Y4,Y5,Y6,Y7,Y8,Y9,Za,Zb,Zc,Zd,Ze,Zf,Zg,Zh,Zi,Zj,Zk,Zl,Zm,Zn,Zo,Zp,Zq,Zr,Zs,Zt,Zu,Zv,Zw,Zx,Zy,Zz,Z0,Z1,Z2,Z3,Z4,Z5,Z6,Z7,Z8,Z9,Ja,Jb,Jc,Jd,Je,Jf,Jg,Jh,Ji,Jj,Jk,Jl,Jm,Jn,Jo,Jp,Jq,Jr,Js,Jt,Ju,Jv,Jw,Jx,Jy,Jz,J0,J1,J2,J3,J4,J5,J6,J7,J8,J9,Ka,Kb,Kc,Kd,Ke,Kf,Kg,Kh,Ki,Kj,Kk,Kl,Km,Kn,Ko,Kp,Kq,Kr,Ks,Kt,Ku,Kv,Kw,Kx,Ky,Kz,K0,K1,K2,K3,K4,K5,K6,K7,K8,K9,Ua,Ub,Uc,Ud,Ue,Uf,Ug,Uh,Ui,Uj,Uk,Ul,Um,Un,Uo,Up,Uq,Ur,Us,Ut,Uu,Uv,Uw,Ux,Uy,Uz,U0,U1,U2,U3,U4,U5,U6,U7,U8,U9,Va,Vb,Vc,Vd,Ve,Vf,Vg,Vh,Vi,Vj,Vk,Vl,Vm,Vn,Vo,Vp,Vq,Vr,Vs,Vt,Vu,Vv,Vw,Vx,Vy,Vz,V0,V1,V2,V3,V4,V5,V6,V7,V8,V9,Wa,Wb,Wc,Wd,We,Wf,Wg,Wh,Wi,Wj,Wk,Wl,Wm,Wn,Wo,Wp,Wq,Wr,Ws,Wt,Wu,Wv,Ww,Wx,Wy,Wz,W0,W1,W2,W3,W4,W5,W6,W7,W8,W9,Ha,Hb,Hc,Hd,He,Hf,Hg,Hh,Hi,Hj,Hk,Hl,Hm,Hn,Ho,Hp,Hq,Hr,Hs,Ht,Hu,Hv,Hw,Hx,Hy,Hz,H0,H1,H2,H3,H4,H5,H6,H7,H8,H9,Na,Nb,Nc,Nd,Ne,Nf,Ng,Nh,Ni,Nj,Nk,Nl,Nm,Nn,No,Np,Nq,Nr,Ns,Nt,Nu,Nv,Nw,Nx,Ny,Nz,N0,N1,N2,N3,N4,N5,N6,N7,N8,N9,Ba,Bb,Bc,Bd,Be,Bf,Bg,Bh,Bi,c_law15_GridAll_R0.eq_1,c_law15_GridAll_R1.eq_1,c_law15_GridAll_R2.eq_1,c_law15_GridAll_R3.eq_1,c_law15_GridAll_R4.eq_1,c_law15_GridAll_R5.eq_1,c_law15_GridAll_R6.eq_1,c_law15_GridAll_R7.eq_1,c_law15_GridAll_R8.eq_1,c_law15_GridAll_R9.eq_1,c_law15_GridAll_R10.eq_1,c_law15_GridAll_R11.eq_1,c_law15_GridAll.eq_1,hK,hgr,h1,hm,h2,c1,c2,c3,c4,c5,c6])
  by_cases c7 : pf < 0
  · (sym => simp [Qa,Qb,Qc,Qd,Qe,Qf,Qg,Qh,Qi,Qj,Qk,Ql,Qm,Qn,Qo,Qp,Qq,Qr,Qs,Qt,Qu,Qv,Qw,Qx,Qy,Qz,Q0,Q1,Q2,Q3,Q4,Q5,Q6,Q7,Q8,Q9,Xa,Xb,Xc,Xd,Xe,Xf,Xg,Xh,Xi,Xj,Xk,Xl,Xm,Xn,Xo,Xp,Xq,Xr,Xs,Xt,Xu,Xv,Xw,Xx,Xy,Xz,X0,X1,X2,X3,X4,X5,X6,X7,X8,X9,Ya,Yb,Yc,Yd,Ye,Yf,Yg,Yh,Yi,Yj,Yk,Yl,Ym,Yn,Yo,Yp,Yq,Yr,Ys,Yt,Yu,Yv,Yw,Yx,Yy,Yz,Y0,Y1,Y2,Y3,Y4,Y5,Y6,Y7,Y8,Y9,Za,Zb,Zc,Zd,Ze,Zf,Zg,Zh,Zi,Zj,Zk,Zl,Zm,Zn,Zo,Zp,Zq,Zr,Zs,Zt,Zu,Zv,Zw,Zx,Zy,Zz,Z0,Z1,Z2,Z3,Z4,Z5,Z6,Z7,Z8,Z9,Ja,Jb,Jc,Jd,Je,Jf,Jg,Jh,Ji,Jj,Jk,Jl,Jm,Jn,Jo,Jp,Jq,Jr,Js,Jt,Ju,Jv,Jw,Jx,Jy,Jz,J0,J1,J2,J3,J4,J5,J6,J7,J8,J9,Ka,Kb,Kc,Kd,Ke,Kf,Kg,Kh,Ki,Kj,Kk,Kl,Km,Kn,Ko,Kp,Kq,Kr,Ks,Kt,Ku,Kv,Kw,Kx,Ky,Kz,K0,K1,K2,K3,K4,K5,K6,K7,K8,K9,Ua,Ub,Uc,Ud,Ue,Uf,Ug,Uh,Ui,Uj,Uk,Ul,Um,Un,Uo,Up,Uq,Ur,Us,Ut,Uu,Uv,Uw,Ux,Uy,Uz,U0,U1,U2,U3,U4,U5,U6,U7,U8,U9,Va,Vb,Vc,Vd,Ve,Vf,Vg,Vh,Vi,Vj,Vk,Vl,Vm,Vn,Vo,Vp,Vq,Vr,Vs,Vt,Vu,Vv,Vw,Vx,Vy,Vz,V0,V1,V2,V3,V4,V5,V6,V7,V8,V9,Wa,Wb,Wc,Wd,We,Wf,Wg,Wh,Wi,Wj,Wk,Wl,Wm,Wn,Wo,Wp,Wq,Wr,Ws,Wt,Wu,Wv,Ww,Wx,Wy,Wz,W0,W1,W2,W3,W4,W5,W6,W7,W8,W9,Ha,Hb,Hc,Hd,He,Hf,Hg,Hh,Hi,Hj,Hk,Hl,Hm,Hn,Ho,Hp,Hq,Hr,Hs,Ht,Hu,Hv,Hw,Hx,Hy,Hz,H0,H1,H2,H3,H4,H5,H6,H7,H8,H9,Na,Nb,Nc,Nd,Ne,Nf,Ng,Nh,Ni,Nj,Nk,Nl,Nm,Nn,No,Np,Nq,Nr,Ns,Nt,Nu,Nv,Nw,Nx,Ny,Nz,N0,N1,N2,N3,N4,N5,N6,N7,N8,N9,Ba,Bb,Bc,Bd,Be,Bf,Bg,Bh,Bi,c_law15_GridAll_R0.eq_1,c_law15_GridAll_R1.eq_1,c_law15_GridAll_R2.eq_1,c_law15_GridAll_R3.eq_1,c_law15_GridAll_R4.eq_1,c_law15_GridAll_R5.eq_1,c_law15_GridAll_R6.eq_1,c_law15_GridAll_R7.eq_1,c_law15_GridAll_R8.eq_1,c_law15_GridAll_R9.eq_1,c_law15_GridAll_R10.eq_1,c_law15_GridAll_R11.eq_1,c_law15_GridAll.eq_1,hK,hgr,h1,hm,h2,c1,c2,c3,c4,c5,c6,c7])
  by_cases c8 : 256 < pf
  · (sym => simp [Qa,Qb,Qc,Qd,Qe,Qf,Qg,Qh,Qi,Qj,Qk,Ql,Qm,Qn,Qo,Qp,Qq,Qr,Qs,Qt,Qu,Qv,Qw,Qx,Qy,Qz,Q0,Q1,Q2,Q3,Q4,Q5,Q6,Q7,Q8,Q9,Xa,Xb,Xc,Xd,Xe,Xf,Xg,Xh,Xi,Xj,Xk,Xl,Xm,Xn,Xo,Xp,Xq,Xr,Xs,Xt,Xu,Xv,Xw,Xx,Xy,Xz,X0,X1,X2,X3,X4,X5,X6,X7,X8,X9,Ya,Yb,Yc,Yd,Ye,Yf,Yg,Yh,Yi,Yj,Yk,Yl,Ym,Yn,Yo,Yp,Yq,Yr,Ys,Yt,Yu,Yv,Yw,Yx,Yy,Yz,Y0,Y1,Y2,Y3,Y4,Y5,Y6,Y7,Y8,Y9,Za,Zb,Zc,Zd,Ze,Zf,Zg,Zh,Zi,Zj,Zk,Zl,Zm,Zn,Zo,Zp,Zq,Zr,Zs,Zt,Zu,Zv,Zw,Zx,Zy,Zz,Z0,Z1,Z2,Z3,Z4,Z5,Z6,Z7,Z8,Z9,Ja,Jb,Jc,Jd,Je,Jf,Jg,Jh,Ji,Jj,Jk,Jl,Jm,Jn,Jo,Jp,Jq,Jr,Js,Jt,Ju,Jv,Jw,Jx,Jy,Jz,J0,J1,J2,J3,J4,J5,J6,J7,J8,J9,Ka,Kb,Kc,Kd,Ke,Kf,Kg,Kh,Ki,Kj,Kk,Kl,Km,Kn,Ko,Kp,Kq,Kr,Ks,Kt,Ku,Kv,Kw,Kx,Ky,Kz,K0,K1,K2,K3,K4,K5,K6,K7,K8,K9,Ua,Ub,Uc,Ud,Ue,Uf,Ug,Uh,Ui,Uj,Uk,Ul,Um,Un,Uo,Up,Uq,Ur,Us,Ut,Uu,Uv,Uw,Ux,Uy,Uz,U0,U1,U2,U3,U4,U5,U6,U7,U8,U9,Va,Vb,Vc,Vd,Ve,Vf,Vg,Vh,Vi,Vj,Vk,Vl,Vm,Vn,Vo,Vp,Vq,Vr,Vs,Vt,Vu,Vv,Vw,Vx,Vy,Vz,V0,V1,V2,V3,V4,V5,V6,V7,V8,V9,Wa,Wb,Wc,Wd,We,Wf,Wg,Wh,Wi,Wj,Wk,Wl,Wm,Wn,Wo,Wp,Wq,Wr,Ws,Wt,Wu,Wv,Ww,Wx,Wy,Wz,W0,W1,W2,W3,W4,W5,W6,W7,W8,W9,Ha,Hb,Hc,Hd,He,Hf,Hg,Hh,Hi,Hj,Hk,Hl,Hm,Hn,Ho,Hp,Hq,Hr,Hs,Ht,Hu,Hv,Hw,Hx,Hy,Hz,H0,H1,H2,H3,H4,H5,H6,H7,H8,H9,Na,Nb,Nc,Nd,Ne,Nf,Ng,Nh,Ni,Nj,Nk,Nl,Nm,Nn,No,Np,Nq,Nr,Ns,Nt,Nu,Nv,Nw,Nx,Ny,Nz,N0,N1,N2,N3,N4,N5,N6,N7,N8,N9,Ba,Bb,Bc,Bd,Be,Bf,Bg,Bh,Bi,c_law15_GridAll_R0.eq_1,c_law15_GridAll_R1.eq_1,c_law15_GridAll_R2.eq_1,c_law15_GridAll_R3.eq_1,c_law15_GridAll_R4.eq_1,c_law15_GridAll_R5.eq_1,c_law15_GridAll_R6.eq_1,c_law15_GridAll_R7.eq_1,c_law15_GridAll_R8.eq_1,c_law15_GridAll_R9.eq_1,c_law15_GridAll_R10.eq_1,c_law15_GridAll_R11.eq_1,c_law15_GridAll.eq_1,hK,hgr,h1,hm,h2,c1,c2,c3,c4,c5,c6,c7,c8])
  by_cases c9 : pk < 0
  · (sym => simp [Qa,Qb,Qc,Qd,Qe,Qf,Qg,Qh,Qi,Qj,Qk,Ql,Qm,Qn,Qo,Qp,Qq,Qr,Qs,Qt,Qu,Qv,Qw,Qx,Qy,Qz,Q0,Q1,Q2,Q3,Q4,Q5,Q6,Q7,Q8,Q9,Xa,Xb,Xc,Xd,Xe,Xf,Xg,Xh,Xi,Xj,Xk,Xl,Xm,Xn,Xo,Xp,Xq,Xr,Xs,Xt,Xu,Xv,Xw,Xx,Xy,Xz,X0,X1,X2,X3,X4,X5,X6,X7,X8,X9,Ya,Yb,Yc,Yd,Ye,Yf,Yg,Yh,Yi,Yj,Yk,Yl,Ym,Yn,Yo,Yp,Yq,Yr,Ys,Yt,Yu,Yv,Yw,Yx,Yy,Yz,Y0,Y1,Y2,Y3,Y4,Y5,Y6,Y7,Y8,Y9,Za,Zb,Zc,Zd,Ze,Zf,Zg,Zh,Zi,Zj,Zk,Zl,Zm,Zn,Zo,Zp,Zq,Zr,Zs,Zt,Zu,Zv,Zw,Zx,Zy,Zz,Z0,Z1,Z2,Z3,Z4,Z5,Z6,Z7,Z8,Z9,Ja,Jb,Jc,Jd,Je,Jf,Jg,Jh,Ji,Jj,Jk,Jl,Jm,Jn,Jo,Jp,Jq,Jr,Js,Jt,Ju,Jv,Jw,Jx,Jy,Jz,J0,J1,J2,J3,J4,J5,J6,J7,J8,J9,Ka,Kb,Kc,Kd,Ke,Kf,Kg,Kh,Ki,Kj,Kk,Kl,Km,Kn,Ko,Kp,Kq,Kr,Ks,Kt,Ku,Kv,Kw,Kx,Ky,Kz,K0,K1,K2,K3,K4,K5,K6,K7,K8,K9,Ua,Ub,Uc,Ud,Ue,Uf,Ug,Uh,Ui,Uj,Uk,Ul,Um,Un,Uo,Up,Uq,Ur,Us,Ut,Uu,Uv,Uw,Ux,Uy,Uz,U0,U1,U2,U3,U4,U5,U6,U7,U8,U9,Va,Vb,Vc,Vd,Ve,Vf,Vg,Vh,Vi,Vj,Vk,Vl,Vm,Vn,Vo,Vp,Vq,Vr,Vs,Vt,Vu,Vv,Vw,Vx,Vy,Vz,V0,V1,V2,V3,V4,V5,V6,V7,V8,V9,Wa,Wb,Wc,Wd,We,Wf,Wg,Wh,Wi,Wj,Wk,Wl,Wm,Wn,Wo,Wp,Wq,Wr,Ws,Wt,Wu,Wv,Ww,Wx,Wy,Wz,W0,W1,W2,W3,W4,W5,W6,W7,W8,W9,Ha,Hb,Hc,Hd,He,Hf,Hg,Hh,Hi,Hj,Hk,Hl,Hm,Hn,Ho,Hp,Hq,Hr,Hs,Ht,Hu,Hv,Hw,Hx,Hy,Hz,H0,H1,H2,H3,H4,H5,H6,H7,H8,H9,Na,Nb,Nc,Nd,Ne,Nf,Ng,Nh,Ni,Nj,Nk,Nl,Nm,Nn,No,Np,Nq,Nr,Ns,Nt,Nu,Nv,Nw,Nx,Ny,Nz,N0,N1,N2,N3,N4,N5,N6,N7,N8,N9,Ba,Bb,Bc,Bd,Be,Bf,Bg,Bh,Bi,c_law15_GridAll_R0.eq_1,c_law15_GridAll_R1.eq_1,c_law15_GridAll_R2.eq_1,c_law15_GridAll_R3.eq_1,c_law15_GridAll_R4.eq_1,c_law15_GridAll_R5.eq_1,c_law15_GridAll_R6.eq_1,c_law15_GridAll_R7.eq_1,c_law15_GridAll_R8.eq_1,c_law15_GridAll_R9.eq_1,c_law15_GridAll_R10.eq_1,c_law15_GridAll_R11.eq_1,c_law15_GridAll.eq_1,hK,hgr,h1,hm,h2,c1,c2,c3,c4,c5,c6,c7,c8,c9])
  by_cases c10 : 256 < pk
  · (sym => simp [Qa,Qb,Qc,Qd,Qe,Qf,Qg,Qh,Qi,Qj,Qk,Ql,Qm,Qn,Qo,Qp,Qq,Qr,Qs,Qt,Qu,Qv,Qw,Qx,Qy,Qz,Q0,Q1,Q2,Q3,Q4,Q5,Q6,Q7,Q8,Q9,Xa,Xb,Xc,Xd,Xe,Xf,Xg,Xh,Xi,Xj,Xk,Xl,Xm,Xn,Xo,Xp,Xq,Xr,Xs,Xt,Xu,Xv,Xw,Xx,Xy,Xz,X0,X1,X2,X3,X4,X5,X6,X7,X8,X9,Ya,Yb,Yc,Yd,Ye,Yf,Yg,Yh,Yi,Yj,Yk,Yl,Ym,Yn,Yo,Yp,Yq,Yr,Ys,Yt,Yu,Yv,Yw,Yx,Yy,Yz,Y0,Y1,Y2,Y3,Y4,Y5,Y6,Y7,Y8,Y9,Za,Zb,Zc,Zd,Ze,Zf,Zg,Zh,Zi,Zj,Zk,Zl,Zm,Zn,Zo,Zp,Zq,Zr,Zs,Zt,Zu,Zv,Zw,Zx,Zy,Zz,Z0,Z1,Z2,Z3,Z4,Z5,Z6,Z7,Z8,Z9,Ja,Jb,Jc,Jd,Je,Jf,Jg,Jh,Ji,Jj,Jk,Jl,Jm,Jn,Jo,Jp,Jq,Jr,Js,Jt,Ju,Jv,Jw,Jx,Jy,Jz,J0,J1,J2,J3,J4,J5,J6,J7,J8,J9,Ka,Kb,Kc,Kd,Ke,Kf,Kg,Kh,Ki,Kj,Kk,Kl,Km,Kn,Ko,Kp,Kq,Kr,Ks,Kt,Ku,Kv,Kw,Kx,Ky,Kz,K0,K1,K2,K3,K4,K5,K6,K7,K8,K9,Ua,Ub,Uc,Ud,Ue,Uf,Ug,Uh,Ui,Uj,Uk,Ul,Um,Un,Uo,Up,Uq,Ur,Us,Ut,Uu,Uv,Uw,Ux,Uy,Uz,U0,U1,U2,U3,U4,U5,U6,U7,U8,U9,Va,Vb,Vc,Vd,Ve,Vf,Vg,Vh,Vi,Vj,Vk,Vl,Vm,Vn,Vo,Vp,Vq,Vr,Vs,Vt,Vu,Vv,Vw,Vx,Vy,Vz,V0,V1,V2,V3,V4,V5,V6,V7,V8,V9,Wa,Wb,Wc,Wd,We,Wf,Wg,Wh,Wi,Wj,Wk,Wl,Wm,Wn,Wo,Wp,Wq,Wr,Ws,Wt,Wu,Wv,Ww,Wx,Wy,Wz,W0,W1,W2,W3,W4,W5,W6,W7,W8,W9,Ha,Hb,Hc,Hd,He,Hf,Hg,Hh,Hi,Hj,Hk,Hl,Hm,Hn,Ho,Hp,Hq,Hr,Hs,Ht,Hu,Hv,Hw,Hx,Hy,Hz,H0,H1,H2,H3,H4,H5,H6,H7,H8,H9,Na,Nb,Nc,Nd,Ne,Nf,Ng,Nh,Ni,Nj,Nk,Nl,Nm,Nn,No,Np,Nq,Nr,Ns,Nt,Nu,Nv,Nw,Nx,Ny,Nz,N0,N1,N2,N3,N4,N5,N6,N7,N8,N9,Ba,Bb,Bc,Bd,Be,Bf,Bg,Bh,Bi,c_law15_GridAll_R0.eq_1,c_law15_GridAll_R1.eq_1,c_law15_GridAll_R2.eq_1,c_law15_GridAll_R3.eq_1,c_law15_GridAll_R4.eq_1,c_law15_GridAll_R5.eq_1,c_law15_GridAll_R6.eq_1,c_law15_GridAll_R7.eq_1,c_law15_GridAll_R8.eq_1,c_law15_GridAll_R9.eq_1,c_law15_GridAll_R10.eq_1,c_law15_GridAll_R11.eq_1,c_law15_GridAll.eq_1,hK,hgr,h1,hm,h2,c1,c2,c3,c4,c5,c6,c7,c8,c9,c10])
  have hp : penB pb pf pk = true := by simp [penB, inN]; omega
  have hM := (mayG_iff g).1 h2
  have n1 := hM.n1
  have n2 := hM.n2
  have w1 := hM.w1
  have w2 := hM.w2
  have a0 := gA_get (g := g) (i := 0) (by omega)
  have v1 : IntKind.i64.wrap ((g.length : Int) - 1) = (g.length : Int) - 1 := wrap_in _ (by omega) (by omega)
  have v2 : IntKind.i64.wrap (((rat g 0).1.length : Int) - 1) = ((rat g 0).1.length : Int) - 1 := wrap_in _ (by omega) (by omega)
  have p1 := eraseG_P G13 G13_0 g f 0 0 ((g.length : Int) - 1) (((rat g 0).1.length : Int) - 1) pb pf pk hlo
  have p2 := blankG_P G13 g.length (rat g 0).1.length pb pf pk
  have s1 := fun b f => gsm2_P G13 b f (erGT g 0 0 ((g.length : Int) - 1) (((rat g 0).1.length : Int) - 1) pb pf pk) (blankG g.length (rat g 0).1.length pb pf pk) false false (erGT_lo hlo _ _ _ _ _ _ _)
  have d1 : decide (gL (erGT g 0 0 ((g.length : Int) - 1) (((rat g 0).1.length : Int) - 1) pb pf pk) = gL (blankG g.length (rat g 0).1.length pb pf pk)) = true := by rw [all_same h2 hp]; simp
  rw [d1] at s1
  have p3 := fun b f => fitG_P G13 G13_0 g b f g.length (rat g 0).1.length 0 hlo
  have s2 := fun b f' => gsm2_P G13 b f' (fitGT g g.length (rat g 0).1.length 0) g false f (fitGT_lo _ _ _)
  have d2 : decide (gL (fitGT g g.length (rat g 0).1.length 0) = gL g) = true := by rw [fit_own h2]; simp
  rw [d2] at s2
  obtain ⟨r, rfl⟩ : ∃ r : Nat, rows = r := ⟨rows.toNat, by omega⟩
  obtain ⟨c, rfl⟩ : ∃ c : Nat, cols = c := ⟨cols.toNat, by omega⟩
  have v3 : IntKind.i64.wrap ((g.length : Int) + (r : Int)) = ((g.length + r : Nat) : Int) := by rw [wrap_in _ (by omega) (by omega)]; rfl
  have v4 : IntKind.i64.wrap (((rat g 0).1.length : Int) + (c : Int)) = (((rat g 0).1.length + c : Nat) : Int) := by rw [wrap_in _ (by omega) (by omega)]; rfl
  by_cases c11 : 200 < g.length + r
  · have c11' : (200 : Int) < ((g.length + r : Nat) : Int) := by omega
    (sym => simp [Qa,Qb,Qc,Qd,Qe,Qf,Qg,Qh,Qi,Qj,Qk,Ql,Qm,Qn,Qo,Qp,Qq,Qr,Qs,Qt,Qu,Qv,Qw,Qx,Qy,Qz,Q0,Q1,Q2,Q3,Q4,Q5,Q6,Q7,Q8,Q9,Xa,Xb,Xc,Xd,Xe,Xf,Xg,Xh,Xi,Xj,Xk,Xl,Xm,Xn,Xo,Xp,Xq,Xr,Xs,Xt,Xu,Xv,Xw,Xx,Xy,Xz,X0,X1,X2,X3,X4,X5,X6,X7,X8,X9,Ya,Yb,Yc,Yd,Ye,Yf,Yg,Yh,Yi,Yj,Yk,Yl,Ym,Yn,Yo,Yp,Yq,Yr,Ys,Yt,Yu,Yv,Yw,Yx,Yy,Yz,Y0,Y1,Y2,Y3,Y4,Y5,Y6,Y7,Y8,Y9,Za,Zb,Zc,Zd,Ze,Zf,Zg,Zh,Zi,Zj,Zk,Zl,Zm,Zn,Zo,Zp,Zq,Zr,Zs,Zt,Zu,Zv,Zw,Zx,Zy,Zz,Z0,Z1,Z2,Z3,Z4,Z5,Z6,Z7,Z8,Z9,Ja,Jb,Jc,Jd,Je,Jf,Jg,Jh,Ji,Jj,Jk,Jl,Jm,Jn,Jo,Jp,Jq,Jr,Js,Jt,Ju,Jv,Jw,Jx,Jy,Jz,J0,J1,J2,J3,J4,J5,J6,J7,J8,J9,Ka,Kb,Kc,Kd,Ke,Kf,Kg,Kh,Ki,Kj,Kk,Kl,Km,Kn,Ko,Kp,Kq,Kr,Ks,Kt,Ku,Kv,Kw,Kx,Ky,Kz,K0,K1,K2,K3,K4,K5,K6,K7,K8,K9,Ua,Ub,Uc,Ud,Ue,Uf,Ug,Uh,Ui,Uj,Uk,Ul,Um,Un,Uo,Up,Uq,Ur,Us,Ut,Uu,Uv,Uw,Ux,Uy,Uz,U0,U1,U2,U3,U4,U5,U6,U7,U8,U9,Va,Vb,Vc,Vd,Ve,Vf,Vg,Vh,Vi,Vj,Vk,Vl,Vm,Vn,Vo,Vp,Vq,Vr,Vs,Vt,Vu,Vv,Vw,Vx,Vy,Vz,V0,V1,V2,V3,V4,V5,V6,V7,V8,V9,Wa,Wb,Wc,Wd,We,Wf,Wg,Wh,Wi,Wj,Wk,Wl,Wm,Wn,Wo,Wp,Wq,Wr,Ws,Wt,Wu,Wv,Ww,Wx,Wy,Wz,W0,W1,W2,W3,W4,W5,W6,W7,W8,W9,Ha,Hb,Hc,Hd,He,Hf,Hg,Hh,Hi,Hj,Hk,Hl,Hm,Hn,Ho,Hp,Hq,Hr,Hs,Ht,Hu,Hv,Hw,Hx,Hy,Hz,H0,H1,H2,H3,H4,H5,H6,H7,H8,H9,Na,Nb,Nc,Nd,Ne,Nf,Ng,Nh,Ni,Nj,Nk,Nl,Nm,Nn,No,Np,Nq,Nr,Ns,Nt,Nu,Nv,Nw,Nx,Ny,Nz,N0,N1,N2,N3,N4,N5,N6,N7,N8,N9,Ba,Bb,Bc,Bd,Be,Bf,Bg,Bh,Bi,c_law15_GridAll_R0.eq_1,c_law15_GridAll_R1.eq_1,c_law15_GridAll_R2.eq_1,c_law15_GridAll_R3.eq_1,c_law15_GridAll_R4.eq_1,c_law15_GridAll_R5.eq_1,c_law15_GridAll_R6.eq_1,c_law15_GridAll_R7.eq_1,c_law15_GridAll_R8.eq_1,c_law15_GridAll_R9.eq_1,c_law15_GridAll_R10.eq_1,c_law15_GridAll_R11.eq_1,c_law15_GridAll.eq_1,hK,hgr,h1,hm,h2,c1,c2,c3,c4,c5,c6,c7,c8,c9,c10,a0,gA_len,cells_len,v1,v2,v3,v4,p1,p2,s1,p3,s2,c11'])
  have c11' : ¬ (200 : Int) < ((g.length + r : Nat) : Int) := by omega
  by_cases c12 : 200 < (rat g 0).1.length + c
  · have c12' : (200 : Int) < (((rat g 0).1.length + c : Nat) : Int) := by omega
    (sym => simp [Qa,Qb,Qc,Qd,Qe,Qf,Qg,Qh,Qi,Qj,Qk,Ql,Qm,Qn,Qo,Qp,Qq,Qr,Qs,Qt,Qu,Qv,Qw,Qx,Qy,Qz,Q0,Q1,Q2,Q3,Q4,Q5,Q6,Q7,Q8,Q9,Xa,Xb,Xc,Xd,Xe,Xf,Xg,Xh,Xi,Xj,Xk,Xl,Xm,Xn,Xo,Xp,Xq,Xr,Xs,Xt,Xu,Xv,Xw,Xx,Xy,Xz,X0,X1,X2,X3,X4,X5,X6,X7,X8,X9,Ya,Yb,Yc,Yd,Ye,Yf,Yg,Yh,Yi,Yj,Yk,Yl,Ym,Yn,Yo,Yp,Yq,Yr,Ys,Yt,Yu,Yv,Yw,Yx,Yy,Yz,Y0,Y1,Y2,Y3,Y4,Y5,Y6,Y7,Y8,Y9,Za,Zb,Zc,Zd,Ze,Zf,Zg,Zh,Zi,Zj,Zk,Zl,Zm,Zn,Zo,Zp,Zq,Zr,Zs,Zt,Zu,Zv,Zw,Zx,Zy,Zz,Z0,Z1,Z2,Z3,Z4,Z5,Z6,Z7,Z8,Z9,Ja,Jb,Jc,Jd,Je,Jf,Jg,Jh,Ji,Jj,Jk,Jl,Jm,Jn,Jo,Jp,Jq,Jr,Js,Jt,Ju,Jv,Jw,Jx,Jy,Jz,J0,J1,J2,J3,J4,J5,J6,J7,J8,J9,Ka,Kb,Kc,Kd,Ke,Kf,Kg,Kh,Ki,Kj,Kk,Kl,Km,Kn,Ko,Kp,Kq,Kr,Ks,Kt,Ku,Kv,Kw,Kx,Ky,Kz,K0,K1,K2,K3,K4,K5,K6,K7,K8,K9,Ua,Ub,Uc,Ud,Ue,Uf,Ug,Uh,Ui,Uj,Uk,Ul,Um,Un,Uo,Up,Uq,Ur,Us,Ut,Uu,Uv,Uw,Ux,Uy,Uz,U0,U1,U2,U3,U4,U5,U6,U7,U8,U9,Va,Vb,Vc,Vd,Ve,Vf,Vg,Vh,Vi,Vj,Vk,Vl,Vm,Vn,Vo,Vp,Vq,Vr,Vs,Vt,Vu,Vv,Vw,Vx,Vy,Vz,V0,V1,V2,V3,V4,V5,V6,V7,V8,V9,Wa,Wb,Wc,Wd,We,Wf,Wg,Wh,Wi,Wj,Wk,Wl,Wm,Wn,Wo,Wp,Wq,Wr,Ws,Wt,Wu,Wv,Ww,Wx,Wy,Wz,W0,W1,W2,W3,W4,W5,W6,W7,W8,W9,Ha,Hb,Hc,Hd,He,Hf,Hg,Hh,Hi,Hj,Hk,Hl,Hm,Hn,Ho,Hp,Hq,Hr,Hs,Ht,Hu,Hv,Hw,Hx,Hy,Hz,H0,H1,H2,H3,H4,H5,H6,H7,H8,H9,Na,Nb,Nc,Nd,Ne,Nf,Ng,Nh,Ni,Nj,Nk,Nl,Nm,Nn,No,Np,Nq,Nr,Ns,Nt,Nu,Nv,Nw,Nx,Ny,Nz,N0,N1,N2,N3,N4,N5,N6,N7,N8,N9,Ba,Bb,Bc,Bd,Be,Bf,Bg,Bh,Bi,c_law15_GridAll_R0.eq_1,c_law15_GridAll_R1.eq_1,c_law15_GridAll_R2.eq_1,c_law15_GridAll_R3.eq_1,c_law15_GridAll_R4.eq_1,c_law15_GridAll_R5.eq_1,c_law15_GridAll_R6.eq_1,c_law15_GridAll_R7.eq_1,c_law15_GridAll_R8.eq_1,c_law15_GridAll_R9.eq_1,c_law15_GridAll_R10.eq_1,c_law15_GridAll_R11.eq_1,c_law15_GridAll.eq_1,hK,hgr,h1,hm,h2,c1,c2,c3,c4,c5,c6,c7,c8,c9,c10,a0,gA_len,cells_len,v1,v2,v3,v4,p1,p2,s1,p3,s2,c11',c12'])
  have c12' : ¬ (200 : Int) < (((rat g 0).1.length + c : Nat) : Int) := by omega
  have p4 := fun b f => fitG_P G13 G13_0 g b f ((g.length + r : Nat) : Int) (((rat g 0).1.length + c : Nat) : Int) 0 hlo
  obtain ⟨m1, m2, m3⟩ := fit_more h2 (r := r) (c := c) (by omega) (by omega)
  have lo2 : Lo (fitGT g ((g.length + r : Nat) : Int) (((rat g 0).1.length + c : Nat) : Int) 0) := fitGT_lo _ _ _
  have m4 := fun b f => mayG_P G13 G13_0 (fitGT g ((g.length + r : Nat) : Int) (((rat g 0).1.length + c : Nat) : Int) 0) b f lo2
  have p5 := fun b f => fitG_P G13 G13_0 (fitGT g ((g.length + r : Nat) : Int) (((rat g 0).1.length + c : Nat) : Int) 0) b f g.length (rat g 0).1.length 0 lo2
  have s3 := fun b f' => gsm2_P G13 b f' (fitGT (fitGT g ((g.length + r : Nat) : Int) (((rat g 0).1.length + c : Nat) : Int) 0) g.length (rat g 0).1.length 0) g false f (fitGT_lo _ _ _)
  have d3 : decide (gL (fitGT (fitGT g ((g.length + r : Nat) : Int) (((rat g 0).1.length + c : Nat) : Int) 0) g.length (rat g 0).1.length 0) = gL g) = true := by rw [m2]; simp
  rw [d3] at s3
  (sym => simp [Qa,Qb,Qc,Qd,Qe,Qf,Qg,Qh,Qi,Qj,Qk,Ql,Qm,Qn,Qo,Qp,Qq,Qr,Qs,Qt,Qu,Qv,Qw,Qx,Qy,Qz,Q0,Q1,Q2,Q3,Q4,Q5,Q6,Q7,Q8,Q9,Xa,Xb,Xc,Xd,Xe,Xf,Xg,Xh,Xi,Xj,Xk,Xl,Xm,Xn,Xo,Xp,Xq,Xr,Xs,Xt,Xu,Xv,Xw,Xx,Xy,Xz,X0,X1,X2,X3,X4,X5,X6,X7,X8,X9,Ya,Yb,Yc,Yd,Ye,Yf,Yg,Yh,Yi,Yj,Yk,Yl,Ym,Yn,Yo,Yp,Yq,Yr,Ys,Yt,Yu,Yv,Yw,Yx,Yy,Yz,Y0,Y1,Y2,Y3,Y4,Y5,Y6,Y7,Y8,Y9,Za,Zb,Zc,Zd,Ze,Zf,Zg,Zh,Zi,Zj,Zk,Zl,Zm,Zn,Zo,Zp,Zq,Zr,Zs,Zt,Zu,Zv,Zw,Zx,Zy,Zz,Z0,Z1,Z2,Z3,Z4,Z5,Z6,Z7,Z8,Z9,Ja,Jb,Jc,Jd,Je,Jf,Jg,Jh,Ji,Jj,Jk,Jl,Jm,Jn,Jo,Jp,Jq,Jr,Js,Jt,Ju,Jv,Jw,Jx,Jy,Jz,J0,J1,J2,J3,J4,J5,J6,J7,J8,J9,Ka,Kb,Kc,Kd,Ke,Kf,Kg,Kh,Ki,Kj,Kk,Kl,Km,Kn,Ko,Kp,Kq,Kr,Ks,Kt,Ku,Kv,Kw,Kx,Ky,Kz,K0,K1,K2,K3,K4,K5,K6,K7,K8,K9,Ua,Ub,Uc,Ud,Ue,Uf,Ug,Uh,Ui,Uj,Uk,Ul,Um,Un,Uo,Up,Uq,Ur,Us,Ut,Uu,Uv,Uw,Ux,Uy,Uz,U0,U1,U2,U3,U4,U5,U6,U7,U8,U9,Va,Vb,Vc,Vd,Ve,Vf,Vg,Vh,Vi,Vj,Vk,Vl,Vm,Vn,Vo,Vp,Vq,Vr,Vs,Vt,Vu,Vv,Vw,Vx,Vy,Vz,V0,V1,V2,V3,V4,V5,V6,V7,V8,V9,Wa,Wb,Wc,Wd,We,Wf,Wg,Wh,Wi,Wj,Wk,Wl,Wm,Wn,Wo,Wp,Wq,Wr,Ws,Wt,Wu,Wv,Ww,Wx,Wy,Wz,W0,W1,W2,W3,W4,W5,W6,W7,W8,W9,Ha,Hb,Hc,Hd,He,Hf,Hg,Hh,Hi,Hj,Hk,Hl,Hm,Hn,Ho,Hp,Hq,Hr,Hs,Ht,Hu,Hv,Hw,Hx,Hy,Hz,H0,H1,H2,H3,H4,H5,H6,H7,H8,H9,Na,Nb,Nc,Nd,Ne,Nf,Ng,Nh,Ni,Nj,Nk,Nl,Nm,Nn,No,Np,Nq,Nr,Ns,Nt,Nu,Nv,Nw,Nx,Ny,Nz,N0,N1,N2,N3,N4,N5,N6,N7,N8,N9,Ba,Bb,Bc,Bd,Be,Bf,Bg,Bh,Bi,c_law15_GridAll_R0.eq_1,c_law15_GridAll_R1.eq_1,c_law15_GridAll_R2.eq_1,c_law15_GridAll_R3.eq_1,c_law15_GridAll_R4.eq_1,c_law15_GridAll_R5.eq_1,c_law15_GridAll_R6.eq_1,c_law15_GridAll_R7.eq_1,c_law15_GridAll_R8.eq_1,c_law15_GridAll_R9.eq_1,c_law15_GridAll_R10.eq_1,c_law15_GridAll_R11.eq_1,c_law15_GridAll.eq_1,hK,hgr,h1,hm,h2,c1,c2,c3,c4,c5,c6,c7,c8,c9,c10,a0,gA_len,cells_len,v1,v2,v3,v4,p1,p2,s1,p3,s2,c11',c12',p4,m4,m1,p5,s3])
theorem law_GridAll (a0 a1 a2 : AV) (a3 : List AV) (h0 : HasTy (.sl [.sl [.int .i32, .int .i32, .int .i32, .int .i64, .int .i64, .int .i64, .int .i64]]) a0) (h1 : HasTy (.int .i64) a1) (h2 : HasTy (.int .i64) a2) (h3 : HasTys [.int .i64, .int .i64, .int .i64] a3) : aP G13 FT n_law15_GridAll [a0, a1, a2, .agg a3] = some (.bool true) := by
  obtain ⟨g, f, rfl, _⟩ := ty_grid h0
  obtain ⟨n, rfl, _⟩ := ty_int h1
  obtain ⟨m, rfl, _⟩ := ty_int h2
  obtain ⟨p, rfl, _⟩ := tys_pen h3
  exact gridAll_P g f n m p.b p.f p.k
end Go.Proofs.YtmmkjbcklghopaaDoor
