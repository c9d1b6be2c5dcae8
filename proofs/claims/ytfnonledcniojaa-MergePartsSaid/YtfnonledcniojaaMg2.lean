/- Queues: plain laws; great, known. Conditions: as each statement says. -/
import Derived.Test.YtfnonledcniojaaMg1
import Derived.KernelRfl
set_option linter.unusedVariables false
set_option linter.unusedSimpArgs false
set_option linter.unusedSectionVars false
set_option maxRecDepth 20000
set_option maxHeartbeats 1000000
namespace Go.Proofs.Ytfnonledcniojaa
open Go
variable (G : Nat → Option (List AV))
def pcB (x : Pc) : Bool := pieceB x.1 x.2.1 x.2.2.1.length
theorem sizeQ_cons (x : Pc) (q : List Pc) : sizeQ (x :: q) = x.2.2.1.length + sizeQ q := by simp [sizeQ]
theorem sizeQ_app (a b : List Pc) : sizeQ (a ++ b) = sizeQ a + sizeQ b := by simp [sizeQ]
theorem mayQ_iff : ∀ (q : List Pc) (n : Int), n ≤ 64 → (mayQ n q = true ↔ (∀ x ∈ q, pcB x = true) ∧ n + sizeQ q ≤ 64)
  | [], n, h => by simp [mayQ, sizeQ]; omega
  | x :: q, n, h => by
    rw [mayQ, Bool.and_eq_true, Bool.and_eq_true, decide_eq_true_eq, sizeQ_cons]
    constructor
    · rintro ⟨⟨h1, h2⟩, h3⟩
      obtain ⟨h4, h5⟩ := (mayQ_iff q _ h2).1 h3
      refine ⟨fun y hy => ?_, by omega⟩
      rcases List.mem_cons.1 hy with rfl | hy
      · exact h1
      · exact h4 y hy
    · rintro ⟨h1, h2⟩
      have h3 : n + x.2.2.1.length ≤ 64 := by omega
      exact ⟨⟨h1 x (List.mem_cons_self ..), h3⟩, (mayQ_iff q _ h3).2 ⟨fun y hy => h1 y (List.mem_cons_of_mem _ hy), by omega⟩⟩
theorem may0_iff (q : List Pc) : mayQ 0 q = true ↔ (∀ x ∈ q, pcB x = true) ∧ sizeQ q ≤ 64 := by
  rw [mayQ_iff q 0 (by omega)]; constructor <;> rintro ⟨h1, h2⟩ <;> exact ⟨h1, by omega⟩
theorem sizeQ_cp (q : List Pc) : sizeQ (cpQ q) = sizeQ q := by simp [sizeQ, cpQ, cp, Function.comp_def]
theorem may_cp (q : List Pc) : mayQ 0 (cpQ q) = mayQ 0 q := by
  rw [Bool.eq_iff_iff, may0_iff, may0_iff, sizeQ_cp]
  constructor
  · rintro ⟨h1, h2⟩
    exact ⟨fun x hx => h1 (cp x) (List.mem_map_of_mem hx), h2⟩
  · rintro ⟨h1, h2⟩
    refine ⟨fun x hx => ?_, h2⟩
    obtain ⟨y, hy, rfl⟩ := List.mem_map.1 hx
    exact h1 y hy
theorem sizeQ_split (q : List Pc) (k : Nat) : sizeQ (q.take k) + sizeQ (q.drop k) = sizeQ q := by rw [← sizeQ_app, List.take_append_drop]
theorem may_take {q : List Pc} (h : mayQ 0 q = true) (k : Nat) : mayQ 0 (q.take k) = true := by
  obtain ⟨h1, h2⟩ := (may0_iff q).1 h
  have := sizeQ_split q k
  exact (may0_iff _).2 ⟨fun x hx => h1 x (List.mem_of_mem_take hx), by omega⟩
theorem may_drop {q : List Pc} (h : mayQ 0 q = true) (k : Nat) : mayQ 0 (q.drop k) = true := by
  obtain ⟨h1, h2⟩ := (may0_iff q).1 h
  have := sizeQ_split q k
  exact (may0_iff _).2 ⟨fun x hx => h1 x (List.mem_of_mem_drop hx), by omega⟩
theorem okL_may {q : List Pc} (h : mayQ 0 q = true) : okL q := by
  obtain ⟨h1, h2⟩ := (may0_iff q).1 h
  have hp : ∀ x ∈ q, 1 ≤ x.2.2.1.length ∧ x.2.2.1.length ≤ 16 := fun x hx => by
    have := h1 x hx
    simp only [pcB, pieceB, Bool.and_eq_true, decide_eq_true_eq] at this
    omega
  have hl : ∀ q : List Pc, (∀ x ∈ q, 1 ≤ x.2.2.1.length) → q.length ≤ sizeQ q := by
    intro q
    induction q with
    | nil => intro _; exact Nat.le_refl _
    | cons x q ih =>
      intro h
      have a := ih (fun y hy => h y (List.mem_cons_of_mem _ hy))
      have b := h x (List.mem_cons_self ..)
      rw [sizeQ_cons, List.length_cons]; omega
  exact ⟨by have := hl q (fun x hx => (hp x hx).1); omega, fun x hx => by have := hp x hx; omega⟩
theorem popN_size : ∀ (q : List Pc) (n : Int), (sizeQ (q.take (popN q n)) : Int) ≤ max 0 n
  | [], n => by simp [popN, sizeQ]; omega
  | x :: q, n => by
    rw [popN]
    split
    · have := popN_size q (n - x.2.2.1.length)
      rw [List.take_succ_cons, sizeQ_cons]; omega
    · simp [sizeQ]; omega
theorem popN_next : ∀ (q : List Pc) (n : Int) (h : popN q n < q.length), 0 ≤ n → n < sizeQ (q.take (popN q n)) + (q[popN q n].2.2.1.length : Int)
  | [], n, h, _ => by simp at h
  | x :: q, n, h, hn => by
    by_cases hx : (x.2.2.1.length : Int) ≤ n
    · have e : popN (x :: q) n = popN q (n - x.2.2.1.length) + 1 := by rw [popN, if_pos hx]
      have h' : popN q (n - x.2.2.1.length) < q.length := by rw [e, List.length_cons] at h; omega
      have ih := popN_next q (n - x.2.2.1.length) h' (by omega)
      simp only [e, List.take_succ_cons, sizeQ_cons, List.getElem_cons_succ]
      omega
    · have e : popN (x :: q) n = 0 := by rw [popN, if_neg hx]
      simp only [e, List.take_zero, List.getElem_cons_zero]
      simp [sizeQ]; omega
theorem cp_cp (q : List Pc) : cpQ (cpQ q) = cpQ q := by simp [cpQ, cp, Function.comp_def]
theorem cpQ_drop (q : List Pc) (k : Nat) : cpQ (q.drop k) = (cpQ q).drop k := by simp [cpQ, List.map_drop]
theorem cpQ_take (q : List Pc) (k : Nat) : cpQ (q.take k) = (cpQ q).take k := by simp [cpQ, List.map_take]
theorem asb : ∀ l : List Int, ∃ bs, asBytes (byt l) = some bs
  | [] => ⟨[], rfl⟩
  | x :: l => by
    obtain ⟨bs, h⟩ := asb l
    exact ⟨_, by unfold byt at *; rw [List.map_cons, asBytes, h]; rfl⟩
/-! ### great -/
def greatQ (q : List Pc) : Bool := decide (100 < q.length) || q.any fun x => decide (100 < x.2.2.1.length)
theorem great_loop (q : List Pc) (b f : Bool) (hl : q.length ≤ 100) : ∀ (m i : Nat), i + m = q.length →
    aE G FT 0 lp_law28_great_0 ⟨[(0, .data b 3 (pcs q) f), (3, .int .i64 i)], []⟩ = if ((q.drop i).any fun x => decide (100 < x.2.2.1.length)) = true then some (.ret, ⟨[(2, .bool true)], []⟩) else some (.exit 0, ⟨[(0, .data b 3 (pcs q) f), (3, .int .i64 q.length), (10, .bool false)], []⟩) := by
  intro m
  induction m with
  | zero =>
    intro i hi
    rw [lp_law28_great_0, y_loop]
    have e : q.drop i = [] := List.drop_eq_nil_of_le (by omega)
    have ei : i = q.length := by omega
    subst ei
    have e0 : decide ((q.length : Int) < q.length) = false := by simp
    have hln := pcs_len q
    rw [e, List.any_nil, if_neg (by simp)]
    (sym => simp [Qa,Qb,Qc,Qd,Qe,Qf,Qg,Qh,Qi,Qj,Qk,Ql,Qm,Qn,Qo,Qp,Qq,Qr,Qs,Qt,Qu,Qv,Qw,Qx,Qy,Qz,Q0,Q1,Q2,Q3,Q4,Q5,Q6,Q7,Q8,Q9,Xa,Xb,Xc,Xd,Xe,Xf,Xg,Xh,Xi,Xj,Xk,Xl,Xm,Xn,Xo,Xp,Xq,Xr,Xs,Xt,Xu,Xv,Xw,Xx,Xy,Xz,X0,X1,X2,X3,X4,X5,X6,X7,X8,X9,Ya,Yb,Yc,Yd,Ye,Yf,Yg,Yh,Yi,Yj,Yk,Yl,Ym,Yn,Yo,Yp,Yq,Yr,Ys,Yt,Yu,Yv,Yw,Yx,Yy,Yz,Y0,Y1,Y2,Y3,Y4,Y5,Y6,Y7,Y8,Y9,Za,Zb,Zc,Zd,Ze,Zf,Zg,Zh,Zi,Zj,Zk,Zl,Zm,Zn,Zo,Zp,Zq,Zr,Zs,Zt,Zu,Zv,Zw,Zx,Zy,Zz,Z0,Z1,Z2,Z3,Z4,Z5,Z6,Z7,Z8,Z9,Ja,Jb,Jc,Jd,Je,Jf,Jg,Jh,Ji,Jj,Jk,Jl,Jm,Jn,Jo,Jp,Jq,Jr,Js,Jt,Ju,Jv,Jw,Jx,Jy,Jz,J0,J1,J2,J3,J4,J5,J6,J7,J8,J9,Ka,Kb,Kc,Kd,Ke,Kf,Kg,Kh,Ki,Kj,Kk,Kl,Km,Kn,Ko,Kp,Kq,Kr,Ks,Kt,Ku,Kv,Kw,Kx,Ky,Kz,K0,K1,K2,K3,K4,K5,K6,K7,K8,K9,Ua,Ub,Uc,Ud,Ue,Uf,Ug,Uh,Ui,Uj,Uk,Ul,Um,Un,Uo,Up,Uq,Ur,Us,Ut,Uu,Uv,Uw,Ux,Uy,Uz,U0,U1,U2,U3,U4,U5,U6,U7,U8,U9,Va,Vb,Vc,Vd,Ve,Vf,Vg,Vh,Vi,Vj,Vk,Vl,Vm,Vn,Vo,Vp,Vq,Vr,Vs,Vt,Vu,Vv,Vw,Vx,Vy,Vz,V0,V1,V2,V3,V4,V5,V6,V7,V8,V9,Wa,Wb,Wc,Wd,We,Wf,Wg,Wh,Wi,Wj,Wk,Wl,Wm,Wn,Wo,Wp,Wq,Wr,Ws,Wt,Wu,Wv,Ww,Wx,Wy,Wz,W0,W1,W2,W3,W4,W5,W6,W7,W8,W9,Ha,Hb,Hc,Hd,He,Hf,Hg,Hh,Hi,Hj,Hk,Hl,Hm,Hn,Ho,Hp,Hq,Hr,Hs,Ht,Hu,Hv,Hw,Hx,Hy,Hz,H0,H1,H2,H3,H4,H5,H6,H7,H8,H9,Na,Nb,Nc,Nd,Ne,Nf,Ng,Nh,Ni,Nj,Nk,Nl,Nm,Nn,No,Np,Nq,Nr,Ns,Nt,Nu,Nv,Nw,Nx,Ny,Nz,N0,N1,N2,N3,N4,N5,N6,N7,N8,N9,Ba,Bb,Bc,Bd,Be,Bf,Bg,Bh,Bi,Bj,Bk,Bl,Bm,Bn,Bo,Bp,Bq,Br,Bs,Bt,Bu,Bv,Bw,Bx,By,Bz,BA,BB,BC,BD,BE,BF,BG,BH,BI,BJ,BK,BL,BM,BN,BO,BP,BQ,BR,BS,BT,BU,BV,BW,BX,BY,BZ,Ca,Cb,q16R0.eq_1,q16R1.eq_1,q16R2.eq_1,q16R3.eq_1,q16R4.eq_1,q16R6.eq_1,q16R7.eq_1,q16R5.eq_1,q16R8.eq_1,c_law28_great.eq_1,c_law28_great_L0.eq_1,e0,hln])
  | succ m ih =>
    intro i hi
    have hlt : i < q.length := by omega
    have hlt' : (i : Int) < q.length := by omega
    have hw := wrap_nat (n := i) (by omega)
    have hg := pcs_at hlt
    have hln := pcs_len q
    have hbl := byt_len q[i].2.2.1
    have e : q.drop i = q[i] :: q.drop (i + 1) := List.drop_eq_getElem_cons hlt
    have ih := ih (i + 1) (by omega)
    rw [lp_law28_great_0] at ih
    rw [e, List.any_cons, lp_law28_great_0, y_loop]
    by_cases hx : 100 < q[i].2.2.1.length
    · have hx' : (100 : Int) < q[i].2.2.1.length := by omega
      rw [if_pos (by simp [hx])]
      (sym => simp [Qa,Qb,Qc,Qd,Qe,Qf,Qg,Qh,Qi,Qj,Qk,Ql,Qm,Qn,Qo,Qp,Qq,Qr,Qs,Qt,Qu,Qv,Qw,Qx,Qy,Qz,Q0,Q1,Q2,Q3,Q4,Q5,Q6,Q7,Q8,Q9,Xa,Xb,Xc,Xd,Xe,Xf,Xg,Xh,Xi,Xj,Xk,Xl,Xm,Xn,Xo,Xp,Xq,Xr,Xs,Xt,Xu,Xv,Xw,Xx,Xy,Xz,X0,X1,X2,X3,X4,X5,X6,X7,X8,X9,Ya,Yb,Yc,Yd,Ye,Yf,Yg,Yh,Yi,Yj,Yk,Yl,Ym,Yn,Yo,Yp,Yq,Yr,Ys,Yt,Yu,Yv,Yw,Yx,Yy,Yz,Y0,Y1,Y2,Y3,Y4,Y5,Y6,Y7,Y8,Y9,Za,Zb,Zc,Zd,Ze,Zf,Zg,Zh,Zi,Zj,Zk,Zl,Zm,Zn,Zo,Zp,Zq,Zr,Zs,Zt,Zu,Zv,Zw,Zx,Zy,Zz,Z0,Z1,Z2,Z3,Z4,Z5,Z6,Z7,Z8,Z9,Ja,Jb,Jc,Jd,Je,Jf,Jg,Jh,Ji,Jj,Jk,Jl,Jm,Jn,Jo,Jp,Jq,Jr,Js,Jt,Ju,Jv,Jw,Jx,Jy,Jz,J0,J1,J2,J3,J4,J5,J6,J7,J8,J9,Ka,Kb,Kc,Kd,Ke,Kf,Kg,Kh,Ki,Kj,Kk,Kl,Km,Kn,Ko,Kp,Kq,Kr,Ks,Kt,Ku,Kv,Kw,Kx,Ky,Kz,K0,K1,K2,K3,K4,K5,K6,K7,K8,K9,Ua,Ub,Uc,Ud,Ue,Uf,Ug,Uh,Ui,Uj,Uk,Ul,Um,Un,Uo,Up,Uq,Ur,Us,Ut,Uu,Uv,Uw,Ux,Uy,Uz,U0,U1,U2,U3,U4,U5,U6,U7,U8,U9,Va,Vb,Vc,Vd,Ve,Vf,Vg,Vh,Vi,Vj,Vk,Vl,Vm,Vn,Vo,Vp,Vq,Vr,Vs,Vt,Vu,Vv,Vw,Vx,Vy,Vz,V0,V1,V2,V3,V4,V5,V6,V7,V8,V9,Wa,Wb,Wc,Wd,We,Wf,Wg,Wh,Wi,Wj,Wk,Wl,Wm,Wn,Wo,Wp,Wq,Wr,Ws,Wt,Wu,Wv,Ww,Wx,Wy,Wz,W0,W1,W2,W3,W4,W5,W6,W7,W8,W9,Ha,Hb,Hc,Hd,He,Hf,Hg,Hh,Hi,Hj,Hk,Hl,Hm,Hn,Ho,Hp,Hq,Hr,Hs,Ht,Hu,Hv,Hw,Hx,Hy,Hz,H0,H1,H2,H3,H4,H5,H6,H7,H8,H9,Na,Nb,Nc,Nd,Ne,Nf,Ng,Nh,Ni,Nj,Nk,Nl,Nm,Nn,No,Np,Nq,Nr,Ns,Nt,Nu,Nv,Nw,Nx,Ny,Nz,N0,N1,N2,N3,N4,N5,N6,N7,N8,N9,Ba,Bb,Bc,Bd,Be,Bf,Bg,Bh,Bi,Bj,Bk,Bl,Bm,Bn,Bo,Bp,Bq,Br,Bs,Bt,Bu,Bv,Bw,Bx,By,Bz,BA,BB,BC,BD,BE,BF,BG,BH,BI,BJ,BK,BL,BM,BN,BO,BP,BQ,BR,BS,BT,BU,BV,BW,BX,BY,BZ,Ca,Cb,q16R0.eq_1,q16R1.eq_1,q16R2.eq_1,q16R3.eq_1,q16R4.eq_1,q16R6.eq_1,q16R7.eq_1,q16R5.eq_1,q16R8.eq_1,c_law28_great.eq_1,c_law28_great_L0.eq_1,hlt',hg,hln,hbl,hx'])
    · have hx' : ¬ (100 : Int) < q[i].2.2.1.length := by omega
      simp only [hx, decide_false, Bool.false_or]
      rw [← ih]
      (sym => simp [Qa,Qb,Qc,Qd,Qe,Qf,Qg,Qh,Qi,Qj,Qk,Ql,Qm,Qn,Qo,Qp,Qq,Qr,Qs,Qt,Qu,Qv,Qw,Qx,Qy,Qz,Q0,Q1,Q2,Q3,Q4,Q5,Q6,Q7,Q8,Q9,Xa,Xb,Xc,Xd,Xe,Xf,Xg,Xh,Xi,Xj,Xk,Xl,Xm,Xn,Xo,Xp,Xq,Xr,Xs,Xt,Xu,Xv,Xw,Xx,Xy,Xz,X0,X1,X2,X3,X4,X5,X6,X7,X8,X9,Ya,Yb,Yc,Yd,Ye,Yf,Yg,Yh,Yi,Yj,Yk,Yl,Ym,Yn,Yo,Yp,Yq,Yr,Ys,Yt,Yu,Yv,Yw,Yx,Yy,Yz,Y0,Y1,Y2,Y3,Y4,Y5,Y6,Y7,Y8,Y9,Za,Zb,Zc,Zd,Ze,Zf,Zg,Zh,Zi,Zj,Zk,Zl,Zm,Zn,Zo,Zp,Zq,Zr,Zs,Zt,Zu,Zv,Zw,Zx,Zy,Zz,Z0,Z1,Z2,Z3,Z4,Z5,Z6,Z7,Z8,Z9,Ja,Jb,Jc,Jd,Je,Jf,Jg,Jh,Ji,Jj,Jk,Jl,Jm,Jn,Jo,Jp,Jq,Jr,Js,Jt,Ju,Jv,Jw,Jx,Jy,Jz,J0,J1,J2,J3,J4,J5,J6,J7,J8,J9,Ka,Kb,Kc,Kd,Ke,Kf,Kg,Kh,Ki,Kj,Kk,Kl,Km,Kn,Ko,Kp,Kq,Kr,Ks,Kt,Ku,Kv,Kw,Kx,Ky,Kz,K0,K1,K2,K3,K4,K5,K6,K7,K8,K9,Ua,Ub,Uc,Ud,Ue,Uf,Ug,Uh,Ui,Uj,Uk,Ul,Um,Un,Uo,Up,Uq,Ur,Us,Ut,Uu,Uv,Uw,Ux,Uy,Uz,U0,U1,U2,U3,U4,U5,U6,U7,U8,U9,Va,Vb,Vc,Vd,Ve,Vf,Vg,Vh,Vi,Vj,Vk,Vl,Vm,Vn,Vo,Vp,Vq,Vr,Vs,Vt,Vu,Vv,Vw,Vx,Vy,Vz,V0,V1,V2,V3,V4,V5,V6,V7,V8,V9,Wa,Wb,Wc,Wd,We,Wf,Wg,Wh,Wi,Wj,Wk,Wl,Wm,Wn,Wo,Wp,Wq,Wr,Ws,Wt,Wu,Wv,Ww,Wx,Wy,Wz,W0,W1,W2,W3,W4,W5,W6,W7,W8,W9,Ha,Hb,Hc,Hd,He,Hf,Hg,Hh,Hi,Hj,Hk,Hl,Hm,Hn,Ho,Hp,Hq,Hr,Hs,Ht,Hu,Hv,Hw,Hx,Hy,Hz,H0,H1,H2,H3,H4,H5,H6,H7,H8,H9,Na,Nb,Nc,Nd,Ne,Nf,Ng,Nh,Ni,Nj,Nk,Nl,Nm,Nn,No,Np,Nq,Nr,Ns,Nt,Nu,Nv,Nw,Nx,Ny,Nz,N0,N1,N2,N3,N4,N5,N6,N7,N8,N9,Ba,Bb,Bc,Bd,Be,Bf,Bg,Bh,Bi,Bj,Bk,Bl,Bm,Bn,Bo,Bp,Bq,Br,Bs,Bt,Bu,Bv,Bw,Bx,By,Bz,BA,BB,BC,BD,BE,BF,BG,BH,BI,BJ,BK,BL,BM,BN,BO,BP,BQ,BR,BS,BT,BU,BV,BW,BX,BY,BZ,Ca,Cb,q16R0.eq_1,q16R1.eq_1,q16R2.eq_1,q16R3.eq_1,q16R4.eq_1,q16R6.eq_1,q16R7.eq_1,q16R5.eq_1,q16R8.eq_1,c_law28_great.eq_1,c_law28_great_L0.eq_1,hlt',hg,hln,hbl,hx',hw])
theorem great_P (q : List Pc) (b f : Bool) : aP G FT n_law28_great [.data b 3 (pcs q) f] = some (.bool (greatQ q)) := by
  have hln := pcs_len q
  unfold aP greatQ
  rw [run_law28_great]
  by_cases hq : 100 < q.length
  · have hq' : (100 : Int) < q.length := by omega
    rw [decide_eq_true hq, Bool.true_or]
    (sym => simp [Qa,Qb,Qc,Qd,Qe,Qf,Qg,Qh,Qi,Qj,Qk,Ql,Qm,Qn,Qo,Qp,Qq,Qr,Qs,Qt,Qu,Qv,Qw,Qx,Qy,Qz,Q0,Q1,Q2,Q3,Q4,Q5,Q6,Q7,Q8,Q9,Xa,Xb,Xc,Xd,Xe,Xf,Xg,Xh,Xi,Xj,Xk,Xl,Xm,Xn,Xo,Xp,Xq,Xr,Xs,Xt,Xu,Xv,Xw,Xx,Xy,Xz,X0,X1,X2,X3,X4,X5,X6,X7,X8,X9,Ya,Yb,Yc,Yd,Ye,Yf,Yg,Yh,Yi,Yj,Yk,Yl,Ym,Yn,Yo,Yp,Yq,Yr,Ys,Yt,Yu,Yv,Yw,Yx,Yy,Yz,Y0,Y1,Y2,Y3,Y4,Y5,Y6,Y7,Y8,Y9,Za,Zb,Zc,Zd,Ze,Zf,Zg,Zh,Zi,Zj,Zk,Zl,Zm,Zn,Zo,Zp,Zq,Zr,Zs,Zt,Zu,Zv,Zw,Zx,Zy,Zz,Z0,Z1,Z2,Z3,Z4,Z5,Z6,Z7,Z8,Z9,Ja,Jb,Jc,Jd,Je,Jf,Jg,Jh,Ji,Jj,Jk,Jl,Jm,Jn,Jo,Jp,Jq,Jr,Js,Jt,Ju,Jv,Jw,Jx,Jy,Jz,J0,J1,J2,J3,J4,J5,J6,J7,J8,J9,Ka,Kb,Kc,Kd,Ke,Kf,Kg,Kh,Ki,Kj,Kk,Kl,Km,Kn,Ko,Kp,Kq,Kr,Ks,Kt,Ku,Kv,Kw,Kx,Ky,Kz,K0,K1,K2,K3,K4,K5,K6,K7,K8,K9,Ua,Ub,Uc,Ud,Ue,Uf,Ug,Uh,Ui,Uj,Uk,Ul,Um,Un,Uo,Up,Uq,Ur,Us,Ut,Uu,Uv,Uw,Ux,Uy,Uz,U0,U1,U2,U3,U4,U5,U6,U7,U8,U9,Va,Vb,Vc,Vd,Ve,Vf,Vg,Vh,Vi,Vj,Vk,Vl,Vm,Vn,Vo,Vp,Vq,Vr,Vs,Vt,Vu,Vv,Vw,Vx,Vy,Vz,V0,V1,V2,V3,V4,V5,V6,V7,V8,V9,Wa,Wb,Wc,Wd,We,Wf,Wg,Wh,Wi,Wj,Wk,Wl,Wm,Wn,Wo,Wp,Wq,Wr,Ws,Wt,Wu,Wv,Ww,Wx,Wy,Wz,W0,W1,W2,W3,W4,W5,W6,W7,W8,W9,Ha,Hb,Hc,Hd,He,Hf,Hg,Hh,Hi,Hj,Hk,Hl,Hm,Hn,Ho,Hp,Hq,Hr,Hs,Ht,Hu,Hv,Hw,Hx,Hy,Hz,H0,H1,H2,H3,H4,H5,H6,H7,H8,H9,Na,Nb,Nc,Nd,Ne,Nf,Ng,Nh,Ni,Nj,Nk,Nl,Nm,Nn,No,Np,Nq,Nr,Ns,Nt,Nu,Nv,Nw,Nx,Ny,Nz,N0,N1,N2,N3,N4,N5,N6,N7,N8,N9,Ba,Bb,Bc,Bd,Be,Bf,Bg,Bh,Bi,Bj,Bk,Bl,Bm,Bn,Bo,Bp,Bq,Br,Bs,Bt,Bu,Bv,Bw,Bx,By,Bz,BA,BB,BC,BD,BE,BF,BG,BH,BI,BJ,BK,BL,BM,BN,BO,BP,BQ,BR,BS,BT,BU,BV,BW,BX,BY,BZ,Ca,Cb,q16R0.eq_1,q16R1.eq_1,q16R2.eq_1,q16R3.eq_1,q16R4.eq_1,q16R6.eq_1,q16R7.eq_1,q16R5.eq_1,q16R8.eq_1,c_law28_great.eq_1,hln,hq'])
  · have hq' : ¬ (100 : Int) < q.length := by omega
    have key := great_loop G q b f (by omega) q.length 0 (by omega)
    simp only [List.drop_zero, Int.natCast_zero] at key
    rw [decide_eq_false hq, Bool.false_or]
    cases hg : q.any fun x => decide (100 < x.2.2.1.length) with
    | true => rw [hg, if_pos rfl] at key; (sym => simp [Qa,Qb,Qc,Qd,Qe,Qf,Qg,Qh,Qi,Qj,Qk,Ql,Qm,Qn,Qo,Qp,Qq,Qr,Qs,Qt,Qu,Qv,Qw,Qx,Qy,Qz,Q0,Q1,Q2,Q3,Q4,Q5,Q6,Q7,Q8,Q9,Xa,Xb,Xc,Xd,Xe,Xf,Xg,Xh,Xi,Xj,Xk,Xl,Xm,Xn,Xo,Xp,Xq,Xr,Xs,Xt,Xu,Xv,Xw,Xx,Xy,Xz,X0,X1,X2,X3,X4,X5,X6,X7,X8,X9,Ya,Yb,Yc,Yd,Ye,Yf,Yg,Yh,Yi,Yj,Yk,Yl,Ym,Yn,Yo,Yp,Yq,Yr,Ys,Yt,Yu,Yv,Yw,Yx,Yy,Yz,Y0,Y1,Y2,Y3,Y4,Y5,Y6,Y7,Y8,Y9,Za,Zb,Zc,Zd,Ze,Zf,Zg,Zh,Zi,Zj,Zk,Zl,Zm,Zn,Zo,Zp,Zq,Zr,Zs,Zt,Zu,Zv,Zw,Zx,Zy,Zz,Z0,Z1,Z2,Z3,Z4,Z5,Z6,Z7,Z8,Z9,Ja,Jb,Jc,Jd,Je,Jf,Jg,Jh,Ji,Jj,Jk,Jl,Jm,Jn,Jo,Jp,Jq,Jr,Js,Jt,Ju,Jv,Jw,Jx,Jy,Jz,J0,J1,J2,J3,J4,J5,J6,J7,J8,J9,Ka,Kb,Kc,Kd,Ke,Kf,Kg,Kh,Ki,Kj,Kk,Kl,Km,Kn,Ko,Kp,Kq,Kr,Ks,Kt,Ku,Kv,Kw,Kx,Ky,Kz,K0,K1,K2,K3,K4,K5,K6,K7,K8,K9,Ua,Ub,Uc,Ud,Ue,Uf,Ug,Uh,Ui,Uj,Uk,Ul,Um,Un,Uo,Up,Uq,Ur,Us,Ut,Uu,Uv,Uw,Ux,Uy,Uz,U0,U1,U2,U3,U4,U5,U6,U7,U8,U9,Va,Vb,Vc,Vd,Ve,Vf,Vg,Vh,Vi,Vj,Vk,Vl,Vm,Vn,Vo,Vp,Vq,Vr,Vs,Vt,Vu,Vv,Vw,Vx,Vy,Vz,V0,V1,V2,V3,V4,V5,V6,V7,V8,V9,Wa,Wb,Wc,Wd,We,Wf,Wg,Wh,Wi,Wj,Wk,Wl,Wm,Wn,Wo,Wp,Wq,Wr,Ws,Wt,Wu,Wv,Ww,Wx,Wy,Wz,W0,W1,W2,W3,W4,W5,W6,W7,W8,W9,Ha,Hb,Hc,Hd,He,Hf,Hg,Hh,Hi,Hj,Hk,Hl,Hm,Hn,Ho,Hp,Hq,Hr,Hs,Ht,Hu,Hv,Hw,Hx,Hy,Hz,H0,H1,H2,H3,H4,H5,H6,H7,H8,H9,Na,Nb,Nc,Nd,Ne,Nf,Ng,Nh,Ni,Nj,Nk,Nl,Nm,Nn,No,Np,Nq,Nr,Ns,Nt,Nu,Nv,Nw,Nx,Ny,Nz,N0,N1,N2,N3,N4,N5,N6,N7,N8,N9,Ba,Bb,Bc,Bd,Be,Bf,Bg,Bh,Bi,Bj,Bk,Bl,Bm,Bn,Bo,Bp,Bq,Br,Bs,Bt,Bu,Bv,Bw,Bx,By,Bz,BA,BB,BC,BD,BE,BF,BG,BH,BI,BJ,BK,BL,BM,BN,BO,BP,BQ,BR,BS,BT,BU,BV,BW,BX,BY,BZ,Ca,Cb,q16R0.eq_1,q16R1.eq_1,q16R2.eq_1,q16R3.eq_1,q16R4.eq_1,q16R6.eq_1,q16R7.eq_1,q16R5.eq_1,q16R8.eq_1,c_law28_great.eq_1,hln,hq',key])
    | false => rw [hg, if_neg (by simp)] at key; (sym => simp [Qa,Qb,Qc,Qd,Qe,Qf,Qg,Qh,Qi,Qj,Qk,Ql,Qm,Qn,Qo,Qp,Qq,Qr,Qs,Qt,Qu,Qv,Qw,Qx,Qy,Qz,Q0,Q1,Q2,Q3,Q4,Q5,Q6,Q7,Q8,Q9,Xa,Xb,Xc,Xd,Xe,Xf,Xg,Xh,Xi,Xj,Xk,Xl,Xm,Xn,Xo,Xp,Xq,Xr,Xs,Xt,Xu,Xv,Xw,Xx,Xy,Xz,X0,X1,X2,X3,X4,X5,X6,X7,X8,X9,Ya,Yb,Yc,Yd,Ye,Yf,Yg,Yh,Yi,Yj,Yk,Yl,Ym,Yn,Yo,Yp,Yq,Yr,Ys,Yt,Yu,Yv,Yw,Yx,Yy,Yz,Y0,Y1,Y2,Y3,Y4,Y5,Y6,Y7,Y8,Y9,Za,Zb,Zc,Zd,Ze,Zf,Zg,Zh,Zi,Zj,Zk,Zl,Zm,Zn,Zo,Zp,Zq,Zr,Zs,Zt,Zu,Zv,Zw,Zx,Zy,Zz,Z0,Z1,Z2,Z3,Z4,Z5,Z6,Z7,Z8,Z9,Ja,Jb,Jc,Jd,Je,Jf,Jg,Jh,Ji,Jj,Jk,Jl,Jm,Jn,Jo,Jp,Jq,Jr,Js,Jt,Ju,Jv,Jw,Jx,Jy,Jz,J0,J1,J2,J3,J4,J5,J6,J7,J8,J9,Ka,Kb,Kc,Kd,Ke,Kf,Kg,Kh,Ki,Kj,Kk,Kl,Km,Kn,Ko,Kp,Kq,Kr,Ks,Kt,Ku,Kv,Kw,Kx,Ky,Kz,K0,K1,K2,K3,K4,K5,K6,K7,K8,K9,Ua,Ub,Uc,Ud,Ue,Uf,Ug,Uh,Ui,Uj,Uk,Ul,Um,Un,Uo,Up,Uq,Ur,Us,Ut,Uu,Uv,Uw,Ux,Uy,Uz,U0,U1,U2,U3,U4,U5,U6,U7,U8,U9,Va,Vb,Vc,Vd,Ve,Vf,Vg,Vh,Vi,Vj,Vk,Vl,Vm,Vn,Vo,Vp,Vq,Vr,Vs,Vt,Vu,Vv,Vw,Vx,Vy,Vz,V0,V1,V2,V3,V4,V5,V6,V7,V8,V9,Wa,Wb,Wc,Wd,We,Wf,Wg,Wh,Wi,Wj,Wk,Wl,Wm,Wn,Wo,Wp,Wq,Wr,Ws,Wt,Wu,Wv,Ww,Wx,Wy,Wz,W0,W1,W2,W3,W4,W5,W6,W7,W8,W9,Ha,Hb,Hc,Hd,He,Hf,Hg,Hh,Hi,Hj,Hk,Hl,Hm,Hn,Ho,Hp,Hq,Hr,Hs,Ht,Hu,Hv,Hw,Hx,Hy,Hz,H0,H1,H2,H3,H4,H5,H6,H7,H8,H9,Na,Nb,Nc,Nd,Ne,Nf,Ng,Nh,Ni,Nj,Nk,Nl,Nm,Nn,No,Np,Nq,Nr,Ns,Nt,Nu,Nv,Nw,Nx,Ny,Nz,N0,N1,N2,N3,N4,N5,N6,N7,N8,N9,Ba,Bb,Bc,Bd,Be,Bf,Bg,Bh,Bi,Bj,Bk,Bl,Bm,Bn,Bo,Bp,Bq,Br,Bs,Bt,Bu,Bv,Bw,Bx,By,Bz,BA,BB,BC,BD,BE,BF,BG,BH,BI,BJ,BK,BL,BM,BN,BO,BP,BQ,BR,BS,BT,BU,BV,BW,BX,BY,BZ,Ca,Cb,q16R0.eq_1,q16R1.eq_1,q16R2.eq_1,q16R3.eq_1,q16R4.eq_1,q16R6.eq_1,q16R7.eq_1,q16R5.eq_1,q16R8.eq_1,c_law28_great.eq_1,hln,hq',key])
theorem great_ok {q : List Pc} (h : greatQ q = false) : q.length ≤ 100 ∧ okL q := by
  simp only [greatQ, Bool.or_eq_false_iff, decide_eq_false_iff_not, List.any_eq_false, decide_eq_true_eq] at h
  obtain ⟨h1, h2⟩ := h
  exact ⟨by omega, by omega, fun x hx => by have := h2 x hx; omega⟩
set_option maxRecDepth 100000 in
theorem known28_P : aP G FT n_law28_known [] = some (.bool true) := aP_fuel 60 (by kernel_rfl)
end Go.Proofs.Ytfnonledcniojaa
