/- TokenEdits: the law. Conditions: as each statement says. -/
import Derived.Test.YtfnonledcniojaaTokR2
import Derived.Test.YtfnonledcniojaaM3
set_option linter.unusedVariables false
set_option linter.unusedSimpArgs false
set_option linter.unusedSectionVars false
set_option maxRecDepth 20000
set_option maxHeartbeats 4000000
namespace Go.Proofs.Ytfnonledcniojaa
open Go
variable (G : Nat → Option (List AV))
/-- The last place of a number. -/
def lastF (x : Int) : List Int → Nat → Int → Int
  | [], _, w => w
  | y :: l, i, w => lastF x l (i + 1) (if y = x then (i : Int) else w)
theorem lastF_not {x : Int} : ∀ (l : List Int) (i : Nat) (w : Int), x ∉ l → lastF x l i w = w
  | [], _, _, _ => rfl
  | y :: l, i, w, h => by
    rw [lastF, lastF_not l (i + 1) _ (fun h' => h (List.mem_cons_of_mem _ h')), if_neg (fun e => h (by rw [e]; exact List.mem_cons_self ..))]
theorem lastF_idx {x : Int} : ∀ (l : List Int) (i : Nat) (w : Int), l.Nodup → x ∈ l → lastF x l i w = idxFrom x l i
  | [], _, _, _, h => by simp at h
  | y :: l, i, w, hn, h => by
    rw [List.nodup_cons] at hn
    rw [lastF, idxFrom]
    by_cases e : x = y
    · subst e
      rw [if_pos rfl, if_pos rfl, lastF_not l _ _ hn.1]
    · rw [if_neg (fun h' => e h'.symm), if_neg e]
      exact lastF_idx l (i + 1) w hn.2 ((List.mem_cons.1 h).resolve_left e)
theorem idxFrom_succ (x : Int) : ∀ (l : List Int) (i : Nat), x ∈ l → idxFrom x l (i + 1) = idxFrom x l i + 1
  | [], _, h => by simp at h
  | y :: l, i, h => by
    rw [idxFrom, idxFrom]
    by_cases e : x = y
    · rw [if_pos e, if_pos e]; omega
    · rw [if_neg e, if_neg e]
      exact idxFrom_succ x l (i + 1) ((List.mem_cons.1 h).resolve_left e)
theorem last_place {h : Int} {q : List Int} {id : Int} (hm : mayT h q = true) (hn : numB id = true) : lastF id (allT h q) 0 (-1) = placeT h q id := by
  obtain ⟨⟨_, hnd⟩, hz⟩ := (mayT_iff h q).1 hm
  obtain ⟨hn1, hn8⟩ := (numB_iff id).1 hn
  have hq0 := idxFrom_mem id q 0
  rw [placeT, if_pos ⟨hm, hn⟩]
  unfold allT at hnd ⊢
  by_cases h0 : h = 0
  · have := hz h0
    subst this h0
    rw [if_pos rfl, if_neg (by omega), if_neg (by simp [idxFrom])]; rfl
  · rw [if_neg h0] at hnd ⊢
    by_cases he : h = id
    · subst he
      rw [if_pos rfl, lastF_idx _ _ _ hnd (List.mem_cons_self ..), idxFrom, if_pos rfl]; rfl
    · rw [if_neg he]
      by_cases hm' : id ∈ q
      · rw [if_pos (hq0.2 hm'), lastF_idx _ _ _ hnd (List.mem_cons_of_mem _ hm'), idxFrom, if_neg (fun e => he e.symm)]
        exact idxFrom_succ id q 0 hm'
      · rw [if_neg (fun h' => hm' (hq0.1 h'))]
        exact lastF_not _ _ _ (fun h' => (List.mem_cons.1 h').elim (fun e => he e.symm) hm')
theorem place_mem {h : Int} {q : List Int} {id : Int} (hm : mayT h q = true) (hn : numB id = true) : placeT h q id < 0 ↔ id ∉ allT h q := by
  rw [← last_place hm hn]
  constructor
  · intro h1 h2
    have := ((mayT_iff h q).1 hm).1.2
    rw [lastF_idx _ _ _ this h2] at h1
    have := (idxFrom_mem id (allT h q) 0).2 h2
    omega
  · intro h1
    rw [lastF_not _ _ _ h1]; omega
def askR (h : Int) (q : List Int) (id : Int) : Int × List Int := if id ∈ allT h q then (h, q) else ofT (allT h q ++ [id])
theorem askT_of {h : Int} {q : List Int} {id : Int} (hm : mayT h q = true) (hn : numB id = true) : askT h q id = ((askR h q id).1, (askR h q id).2, 0) := by
  obtain ⟨_, hz⟩ := (mayT_iff h q).1 hm
  unfold askT askR
  rw [if_pos ⟨hm, hn⟩]
  by_cases h0 : h = 0
  · have := hz h0
    subst this h0
    rw [if_pos rfl, if_neg (by simp [allT])]; rfl
  · rw [if_neg h0]
    by_cases hp : placeT h q id < 0
    · rw [if_pos hp, if_neg ((place_mem hm hn).1 hp)]
      simp [allT, h0, ofT]
    · rw [if_neg hp, if_pos (Classical.not_not.1 (fun h' => hp ((place_mem hm hn).2 h')))]
theorem ask2_R (h : Int) (q : List Int) (f : Bool) (id : Int) (hl : q.length ≤ 900) : aP G FT n_ref27_Ask [.agg [.int .i64 h, .data false 1 (ints q) f], .int .i64 id] = some (tokV (askR h q id).1 (askR h q id).2) := by
  rw [ask2_P G h q f id hl, askR]
  split <;> rfl
theorem ofT_len (l : List Int) : (ofT l).2.length ≤ l.length := by cases l <;> simp [ofT]
theorem allT_len (h : Int) (q : List Int) : (allT h q).length ≤ q.length + 1 := by unfold allT; split <;> simp
/-- The law's loop: where somebody stands. -/
theorem edits_loop (q : List Int) (l : List Int) (id h : Int) (a1 b1 e1 e2 at1 : Int) (a2 b2 : List Int) (f : Bool) (hl : l.length ≤ 1000) : ∀ (m i : Nat) (w : Int), i + m = l.length →
    aE G FT 0 lp_law27_TokenEdits_0 ⟨[(1, .int .i64 id), (3, .ptr 0 0 0 0), (8, .ptr 1 0 0 0), (9, .int .i64 e1), (10, .ptr 2 0 0 0), (11, .int .i64 e2), (14, .int .i64 at1), (15, .data false 1 (ints l) false), (16, .int .i64 w), (17, .int .i64 i)],
        [⟨2, 0, true, [[.int .i64 h, .data false 1 (ints q) f]]⟩, ⟨2, 0, true, [[.int .i64 a1, .data false 1 (ints a2) false]]⟩, ⟨2, 0, true, [[.int .i64 b1, .data false 1 (ints b2) false]]⟩]⟩ =
      some (.exit 0, ⟨[(1, .int .i64 id), (3, .ptr 0 0 0 0), (8, .ptr 1 0 0 0), (9, .int .i64 e1), (10, .ptr 2 0 0 0), (11, .int .i64 e2), (14, .int .i64 at1), (15, .data false 1 (ints l) false), (16, .int .i64 (lastF id (l.drop i) i w)), (17, .int .i64 l.length), (162, .bool false)],
        [⟨2, 0, true, [[.int .i64 h, .data false 1 (ints q) f]]⟩, ⟨2, 0, true, [[.int .i64 a1, .data false 1 (ints a2) false]]⟩, ⟨2, 0, true, [[.int .i64 b1, .data false 1 (ints b2) false]]⟩]⟩) := by
  intro m
  induction m with
  | zero =>
    intro i w hi
    rw [lp_law27_TokenEdits_0, y_loop]
    have e : l.drop i = [] := List.drop_eq_nil_of_le (by omega)
    have ei : i = l.length := by omega
    subst ei
    have e0 : decide ((l.length : Int) < l.length) = false := by simp
    have hln := ints_len l
    rw [e, lastF]
    (sym => simp [Qa,Qb,Qc,Qd,Qe,Qf,Qg,Qh,Qi,Qj,Qk,Ql,Qm,Qn,Qo,Qp,Qq,Qr,Qs,Qt,Qu,Qv,Qw,Qx,Qy,Qz,Q0,Q1,Q2,Q3,Q4,Q5,Q6,Q7,Q8,Q9,Xa,Xb,Xc,Xd,Xe,Xf,Xg,Xh,Xi,Xj,Xk,Xl,Xm,Xn,Xo,Xp,Xq,Xr,Xs,Xt,Xu,Xv,Xw,Xx,Xy,Xz,X0,X1,X2,X3,X4,X5,X6,X7,X8,X9,Ya,Yb,Yc,Yd,Ye,Yf,Yg,Yh,Yi,Yj,Yk,Yl,Ym,Yn,Yo,Yp,Yq,Yr,Ys,Yt,Yu,Yv,Yw,Yx,Yy,Yz,Y0,Y1,Y2,Y3,Y4,Y5,Y6,Y7,Y8,Y9,Za,Zb,Zc,Zd,Ze,Zf,Zg,Zh,Zi,Zj,Zk,Zl,Zm,Zn,Zo,Zp,Zq,Zr,Zs,Zt,Zu,Zv,Zw,Zx,Zy,Zz,Z0,Z1,Z2,Z3,Z4,Z5,Z6,Z7,Z8,Z9,Ja,Jb,Jc,Jd,Je,Jf,Jg,Jh,Ji,Jj,Jk,Jl,Jm,Jn,Jo,Jp,Jq,Jr,Js,Jt,Ju,Jv,Jw,Jx,Jy,Jz,J0,J1,J2,J3,J4,J5,J6,J7,J8,J9,Ka,Kb,Kc,Kd,Ke,Kf,Kg,Kh,Ki,Kj,Kk,Kl,Km,Kn,Ko,Kp,Kq,Kr,Ks,Kt,Ku,Kv,Kw,Kx,Ky,Kz,K0,K1,K2,K3,K4,K5,K6,K7,K8,K9,Ua,Ub,Uc,Ud,Ue,Uf,Ug,Uh,Ui,Uj,Uk,Ul,Um,Un,Uo,Up,Uq,Ur,Us,Ut,Uu,Uv,Uw,Ux,Uy,Uz,U0,U1,U2,U3,U4,U5,U6,U7,U8,U9,Va,Vb,Vc,Vd,Ve,Vf,Vg,Vh,Vi,Vj,Vk,Vl,Vm,Vn,Vo,Vp,Vq,Vr,Vs,Vt,Vu,Vv,Vw,Vx,Vy,Vz,V0,V1,V2,V3,V4,V5,V6,V7,V8,V9,Wa,Wb,Wc,Wd,We,Wf,Wg,Wh,Wi,Wj,Wk,Wl,Wm,Wn,Wo,Wp,Wq,Wr,Ws,Wt,Wu,Wv,Ww,Wx,Wy,Wz,W0,W1,W2,W3,W4,W5,W6,W7,W8,W9,Ha,Hb,Hc,Hd,He,Hf,Hg,Hh,Hi,Hj,Hk,Hl,Hm,Hn,Ho,Hp,Hq,Hr,Hs,Ht,Hu,Hv,Hw,Hx,Hy,Hz,H0,H1,H2,H3,H4,H5,H6,H7,H8,H9,Na,Nb,Nc,Nd,Ne,Nf,Ng,Nh,Ni,Nj,Nk,Nl,Nm,Nn,No,Np,Nq,Nr,Ns,Nt,Nu,Nv,Nw,Nx,Ny,Nz,N0,N1,N2,N3,N4,N5,N6,N7,N8,N9,Ba,Bb,Bc,Bd,Be,Bf,Bg,Bh,Bi,Bj,Bk,Bl,Bm,Bn,Bo,Bp,Bq,Br,Bs,Bt,Bu,Bv,Bw,Bx,By,Bz,BA,BB,BC,BD,BE,BF,BG,BH,BI,BJ,BK,BL,BM,BN,BO,BP,BQ,BR,BS,BT,BU,BV,BW,BX,BY,BZ,Ca,Cb,q6R0.eq_1,q6R1.eq_1,q6R2.eq_1,q6R3.eq_1,q6R4.eq_1,q6R5.eq_1,q6R6.eq_1,q6R7.eq_1,q6R8.eq_1,q6R9.eq_1,q6R10.eq_1,q6R11.eq_1,q6R12.eq_1,q6R13.eq_1,q6R14.eq_1,q6R15.eq_1,q6R16.eq_1,q6R17.eq_1,q6R18.eq_1,q6R19.eq_1,q6R20.eq_1,q6R21.eq_1,q6R23.eq_1,q6R24.eq_1,q6R22.eq_1,q6R25.eq_1,c_law27_TokenEdits.eq_1,c_law27_TokenEdits_L0.eq_1,e0,hln])
  | succ m ih =>
    intro i w hi
    have hlt : i < l.length := by omega
    have hlt' : (i : Int) < l.length := by omega
    have e : l.drop i = l[i] :: l.drop (i + 1) := List.drop_eq_getElem_cons hlt
    have hw := wrap_nat (n := i) (by omega)
    have hg := ints_at hlt
    have hln := ints_len l
    rw [e, lastF]
    have ih := ih (i + 1) (if l[i] = id then (i : Int) else w) (by omega)
    rw [← ih, lp_law27_TokenEdits_0, y_loop]
    by_cases hx : l[i] = id
    · rw [if_pos hx]
      (sym => simp [Qa,Qb,Qc,Qd,Qe,Qf,Qg,Qh,Qi,Qj,Qk,Ql,Qm,Qn,Qo,Qp,Qq,Qr,Qs,Qt,Qu,Qv,Qw,Qx,Qy,Qz,Q0,Q1,Q2,Q3,Q4,Q5,Q6,Q7,Q8,Q9,Xa,Xb,Xc,Xd,Xe,Xf,Xg,Xh,Xi,Xj,Xk,Xl,Xm,Xn,Xo,Xp,Xq,Xr,Xs,Xt,Xu,Xv,Xw,Xx,Xy,Xz,X0,X1,X2,X3,X4,X5,X6,X7,X8,X9,Ya,Yb,Yc,Yd,Ye,Yf,Yg,Yh,Yi,Yj,Yk,Yl,Ym,Yn,Yo,Yp,Yq,Yr,Ys,Yt,Yu,Yv,Yw,Yx,Yy,Yz,Y0,Y1,Y2,Y3,Y4,Y5,Y6,Y7,Y8,Y9,Za,Zb,Zc,Zd,Ze,Zf,Zg,Zh,Zi,Zj,Zk,Zl,Zm,Zn,Zo,Zp,Zq,Zr,Zs,Zt,Zu,Zv,Zw,Zx,Zy,Zz,Z0,Z1,Z2,Z3,Z4,Z5,Z6,Z7,Z8,Z9,Ja,Jb,Jc,Jd,Je,Jf,Jg,Jh,Ji,Jj,Jk,Jl,Jm,Jn,Jo,Jp,Jq,Jr,Js,Jt,Ju,Jv,Jw,Jx,Jy,Jz,J0,J1,J2,J3,J4,J5,J6,J7,J8,J9,Ka,Kb,Kc,Kd,Ke,Kf,Kg,Kh,Ki,Kj,Kk,Kl,Km,Kn,Ko,Kp,Kq,Kr,Ks,Kt,Ku,Kv,Kw,Kx,Ky,Kz,K0,K1,K2,K3,K4,K5,K6,K7,K8,K9,Ua,Ub,Uc,Ud,Ue,Uf,Ug,Uh,Ui,Uj,Uk,Ul,Um,Un,Uo,Up,Uq,Ur,Us,Ut,Uu,Uv,Uw,Ux,Uy,Uz,U0,U1,U2,U3,U4,U5,U6,U7,U8,U9,Va,Vb,Vc,Vd,Ve,Vf,Vg,Vh,Vi,Vj,Vk,Vl,Vm,Vn,Vo,Vp,Vq,Vr,Vs,Vt,Vu,Vv,Vw,Vx,Vy,Vz,V0,V1,V2,V3,V4,V5,V6,V7,V8,V9,Wa,Wb,Wc,Wd,We,Wf,Wg,Wh,Wi,Wj,Wk,Wl,Wm,Wn,Wo,Wp,Wq,Wr,Ws,Wt,Wu,Wv,Ww,Wx,Wy,Wz,W0,W1,W2,W3,W4,W5,W6,W7,W8,W9,Ha,Hb,Hc,Hd,He,Hf,Hg,Hh,Hi,Hj,Hk,Hl,Hm,Hn,Ho,Hp,Hq,Hr,Hs,Ht,Hu,Hv,Hw,Hx,Hy,Hz,H0,H1,H2,H3,H4,H5,H6,H7,H8,H9,Na,Nb,Nc,Nd,Ne,Nf,Ng,Nh,Ni,Nj,Nk,Nl,Nm,Nn,No,Np,Nq,Nr,Ns,Nt,Nu,Nv,Nw,Nx,Ny,Nz,N0,N1,N2,N3,N4,N5,N6,N7,N8,N9,Ba,Bb,Bc,Bd,Be,Bf,Bg,Bh,Bi,Bj,Bk,Bl,Bm,Bn,Bo,Bp,Bq,Br,Bs,Bt,Bu,Bv,Bw,Bx,By,Bz,BA,BB,BC,BD,BE,BF,BG,BH,BI,BJ,BK,BL,BM,BN,BO,BP,BQ,BR,BS,BT,BU,BV,BW,BX,BY,BZ,Ca,Cb,q6R0.eq_1,q6R1.eq_1,q6R2.eq_1,q6R3.eq_1,q6R4.eq_1,q6R5.eq_1,q6R6.eq_1,q6R7.eq_1,q6R8.eq_1,q6R9.eq_1,q6R10.eq_1,q6R11.eq_1,q6R12.eq_1,q6R13.eq_1,q6R14.eq_1,q6R15.eq_1,q6R16.eq_1,q6R17.eq_1,q6R18.eq_1,q6R19.eq_1,q6R20.eq_1,q6R21.eq_1,q6R23.eq_1,q6R24.eq_1,q6R22.eq_1,q6R25.eq_1,c_law27_TokenEdits.eq_1,c_law27_TokenEdits_L0.eq_1,hlt',hg,hln,hx,hw])
    · rw [if_neg hx]
      (sym => simp [Qa,Qb,Qc,Qd,Qe,Qf,Qg,Qh,Qi,Qj,Qk,Ql,Qm,Qn,Qo,Qp,Qq,Qr,Qs,Qt,Qu,Qv,Qw,Qx,Qy,Qz,Q0,Q1,Q2,Q3,Q4,Q5,Q6,Q7,Q8,Q9,Xa,Xb,Xc,Xd,Xe,Xf,Xg,Xh,Xi,Xj,Xk,Xl,Xm,Xn,Xo,Xp,Xq,Xr,Xs,Xt,Xu,Xv,Xw,Xx,Xy,Xz,X0,X1,X2,X3,X4,X5,X6,X7,X8,X9,Ya,Yb,Yc,Yd,Ye,Yf,Yg,Yh,Yi,Yj,Yk,Yl,Ym,Yn,Yo,Yp,Yq,Yr,Ys,Yt,Yu,Yv,Yw,Yx,Yy,Yz,Y0,Y1,Y2,Y3,Y4,Y5,Y6,Y7,Y8,Y9,Za,Zb,Zc,Zd,Ze,Zf,Zg,Zh,Zi,Zj,Zk,Zl,Zm,Zn,Zo,Zp,Zq,Zr,Zs,Zt,Zu,Zv,Zw,Zx,Zy,Zz,Z0,Z1,Z2,Z3,Z4,Z5,Z6,Z7,Z8,Z9,Ja,Jb,Jc,Jd,Je,Jf,Jg,Jh,Ji,Jj,Jk,Jl,Jm,Jn,Jo,Jp,Jq,Jr,Js,Jt,Ju,Jv,Jw,Jx,Jy,Jz,J0,J1,J2,J3,J4,J5,J6,J7,J8,J9,Ka,Kb,Kc,Kd,Ke,Kf,Kg,Kh,Ki,Kj,Kk,Kl,Km,Kn,Ko,Kp,Kq,Kr,Ks,Kt,Ku,Kv,Kw,Kx,Ky,Kz,K0,K1,K2,K3,K4,K5,K6,K7,K8,K9,Ua,Ub,Uc,Ud,Ue,Uf,Ug,Uh,Ui,Uj,Uk,Ul,Um,Un,Uo,Up,Uq,Ur,Us,Ut,Uu,Uv,Uw,Ux,Uy,Uz,U0,U1,U2,U3,U4,U5,U6,U7,U8,U9,Va,Vb,Vc,Vd,Ve,Vf,Vg,Vh,Vi,Vj,Vk,Vl,Vm,Vn,Vo,Vp,Vq,Vr,Vs,Vt,Vu,Vv,Vw,Vx,Vy,Vz,V0,V1,V2,V3,V4,V5,V6,V7,V8,V9,Wa,Wb,Wc,Wd,We,Wf,Wg,Wh,Wi,Wj,Wk,Wl,Wm,Wn,Wo,Wp,Wq,Wr,Ws,Wt,Wu,Wv,Ww,Wx,Wy,Wz,W0,W1,W2,W3,W4,W5,W6,W7,W8,W9,Ha,Hb,Hc,Hd,He,Hf,Hg,Hh,Hi,Hj,Hk,Hl,Hm,Hn,Ho,Hp,Hq,Hr,Hs,Ht,Hu,Hv,Hw,Hx,Hy,Hz,H0,H1,H2,H3,H4,H5,H6,H7,H8,H9,Na,Nb,Nc,Nd,Ne,Nf,Ng,Nh,Ni,Nj,Nk,Nl,Nm,Nn,No,Np,Nq,Nr,Ns,Nt,Nu,Nv,Nw,Nx,Ny,Nz,N0,N1,N2,N3,N4,N5,N6,N7,N8,N9,Ba,Bb,Bc,Bd,Be,Bf,Bg,Bh,Bi,Bj,Bk,Bl,Bm,Bn,Bo,Bp,Bq,Br,Bs,Bt,Bu,Bv,Bw,Bx,By,Bz,BA,BB,BC,BD,BE,BF,BG,BH,BI,BJ,BK,BL,BM,BN,BO,BP,BQ,BR,BS,BT,BU,BV,BW,BX,BY,BZ,Ca,Cb,q6R0.eq_1,q6R1.eq_1,q6R2.eq_1,q6R3.eq_1,q6R4.eq_1,q6R5.eq_1,q6R6.eq_1,q6R7.eq_1,q6R8.eq_1,q6R9.eq_1,q6R10.eq_1,q6R11.eq_1,q6R12.eq_1,q6R13.eq_1,q6R14.eq_1,q6R15.eq_1,q6R16.eq_1,q6R17.eq_1,q6R18.eq_1,q6R19.eq_1,q6R20.eq_1,q6R21.eq_1,q6R23.eq_1,q6R24.eq_1,q6R22.eq_1,q6R25.eq_1,c_law27_TokenEdits.eq_1,c_law27_TokenEdits_L0.eq_1,hlt',hg,hln,hx,hw])
theorem edits_P (h : Int) (q ids : List Int) (id : Int) (f f2 : Bool) : aP G FT n_law27_TokenEdits [.agg [.int .i64 h, .data false 1 (ints q) f], .int .i64 id, .data false 1 (ints ids) f2] = some (.bool true) := by
  have hK := known27_P G
  have hln := ints_len q
  have hli := ints_len ids
  unfold aP
  rw [run_law27_TokenEdits]
  by_cases hq : 100 < q.length
  · have hq' : (100 : Int) < q.length := by omega
    (sym => simp [Qa,Qb,Qc,Qd,Qe,Qf,Qg,Qh,Qi,Qj,Qk,Ql,Qm,Qn,Qo,Qp,Qq,Qr,Qs,Qt,Qu,Qv,Qw,Qx,Qy,Qz,Q0,Q1,Q2,Q3,Q4,Q5,Q6,Q7,Q8,Q9,Xa,Xb,Xc,Xd,Xe,Xf,Xg,Xh,Xi,Xj,Xk,Xl,Xm,Xn,Xo,Xp,Xq,Xr,Xs,Xt,Xu,Xv,Xw,Xx,Xy,Xz,X0,X1,X2,X3,X4,X5,X6,X7,X8,X9,Ya,Yb,Yc,Yd,Ye,Yf,Yg,Yh,Yi,Yj,Yk,Yl,Ym,Yn,Yo,Yp,Yq,Yr,Ys,Yt,Yu,Yv,Yw,Yx,Yy,Yz,Y0,Y1,Y2,Y3,Y4,Y5,Y6,Y7,Y8,Y9,Za,Zb,Zc,Zd,Ze,Zf,Zg,Zh,Zi,Zj,Zk,Zl,Zm,Zn,Zo,Zp,Zq,Zr,Zs,Zt,Zu,Zv,Zw,Zx,Zy,Zz,Z0,Z1,Z2,Z3,Z4,Z5,Z6,Z7,Z8,Z9,Ja,Jb,Jc,Jd,Je,Jf,Jg,Jh,Ji,Jj,Jk,Jl,Jm,Jn,Jo,Jp,Jq,Jr,Js,Jt,Ju,Jv,Jw,Jx,Jy,Jz,J0,J1,J2,J3,J4,J5,J6,J7,J8,J9,Ka,Kb,Kc,Kd,Ke,Kf,Kg,Kh,Ki,Kj,Kk,Kl,Km,Kn,Ko,Kp,Kq,Kr,Ks,Kt,Ku,Kv,Kw,Kx,Ky,Kz,K0,K1,K2,K3,K4,K5,K6,K7,K8,K9,Ua,Ub,Uc,Ud,Ue,Uf,Ug,Uh,Ui,Uj,Uk,Ul,Um,Un,Uo,Up,Uq,Ur,Us,Ut,Uu,Uv,Uw,Ux,Uy,Uz,U0,U1,U2,U3,U4,U5,U6,U7,U8,U9,Va,Vb,Vc,Vd,Ve,Vf,Vg,Vh,Vi,Vj,Vk,Vl,Vm,Vn,Vo,Vp,Vq,Vr,Vs,Vt,Vu,Vv,Vw,Vx,Vy,Vz,V0,V1,V2,V3,V4,V5,V6,V7,V8,V9,Wa,Wb,Wc,Wd,We,Wf,Wg,Wh,Wi,Wj,Wk,Wl,Wm,Wn,Wo,Wp,Wq,Wr,Ws,Wt,Wu,Wv,Ww,Wx,Wy,Wz,W0,W1,W2,W3,W4,W5,W6,W7,W8,W9,Ha,Hb,Hc,Hd,He,Hf,Hg,Hh,Hi,Hj,Hk,Hl,Hm,Hn,Ho,Hp,Hq,Hr,Hs,Ht,Hu,Hv,Hw,Hx,Hy,Hz,H0,H1,H2,H3,H4,H5,H6,H7,H8,H9,Na,Nb,Nc,Nd,Ne,Nf,Ng,Nh,Ni,Nj,Nk,Nl,Nm,Nn,No,Np,Nq,Nr,Ns,Nt,Nu,Nv,Nw,Nx,Ny,Nz,N0,N1,N2,N3,N4,N5,N6,N7,N8,N9,Ba,Bb,Bc,Bd,Be,Bf,Bg,Bh,Bi,Bj,Bk,Bl,Bm,Bn,Bo,Bp,Bq,Br,Bs,Bt,Bu,Bv,Bw,Bx,By,Bz,BA,BB,BC,BD,BE,BF,BG,BH,BI,BJ,BK,BL,BM,BN,BO,BP,BQ,BR,BS,BT,BU,BV,BW,BX,BY,BZ,Ca,Cb,q6R0.eq_1,q6R1.eq_1,q6R2.eq_1,q6R3.eq_1,q6R4.eq_1,q6R5.eq_1,q6R6.eq_1,q6R7.eq_1,q6R8.eq_1,q6R9.eq_1,q6R10.eq_1,q6R11.eq_1,q6R12.eq_1,q6R13.eq_1,q6R14.eq_1,q6R15.eq_1,q6R16.eq_1,q6R17.eq_1,q6R18.eq_1,q6R19.eq_1,q6R20.eq_1,q6R21.eq_1,q6R23.eq_1,q6R24.eq_1,q6R22.eq_1,q6R25.eq_1,c_law27_TokenEdits.eq_1,hK,hln,hq'])
  have hq' : ¬ (100 : Int) < q.length := by omega
  by_cases hi : 100 < ids.length
  · have hi' : (100 : Int) < ids.length := by omega
    (sym => simp [Qa,Qb,Qc,Qd,Qe,Qf,Qg,Qh,Qi,Qj,Qk,Ql,Qm,Qn,Qo,Qp,Qq,Qr,Qs,Qt,Qu,Qv,Qw,Qx,Qy,Qz,Q0,Q1,Q2,Q3,Q4,Q5,Q6,Q7,Q8,Q9,Xa,Xb,Xc,Xd,Xe,Xf,Xg,Xh,Xi,Xj,Xk,Xl,Xm,Xn,Xo,Xp,Xq,Xr,Xs,Xt,Xu,Xv,Xw,Xx,Xy,Xz,X0,X1,X2,X3,X4,X5,X6,X7,X8,X9,Ya,Yb,Yc,Yd,Ye,Yf,Yg,Yh,Yi,Yj,Yk,Yl,Ym,Yn,Yo,Yp,Yq,Yr,Ys,Yt,Yu,Yv,Yw,Yx,Yy,Yz,Y0,Y1,Y2,Y3,Y4,Y5,Y6,Y7,Y8,Y9,Za,Zb,Zc,Zd,Ze,Zf,Zg,Zh,Zi,Zj,Zk,Zl,Zm,Zn,Zo,Zp,Zq,Zr,Zs,Zt,Zu,Zv,Zw,Zx,Zy,Zz,Z0,Z1,Z2,Z3,Z4,Z5,Z6,Z7,Z8,Z9,Ja,Jb,Jc,Jd,Je,Jf,Jg,Jh,Ji,Jj,Jk,Jl,Jm,Jn,Jo,Jp,Jq,Jr,Js,Jt,Ju,Jv,Jw,Jx,Jy,Jz,J0,J1,J2,J3,J4,J5,J6,J7,J8,J9,Ka,Kb,Kc,Kd,Ke,Kf,Kg,Kh,Ki,Kj,Kk,Kl,Km,Kn,Ko,Kp,Kq,Kr,Ks,Kt,Ku,Kv,Kw,Kx,Ky,Kz,K0,K1,K2,K3,K4,K5,K6,K7,K8,K9,Ua,Ub,Uc,Ud,Ue,Uf,Ug,Uh,Ui,Uj,Uk,Ul,Um,Un,Uo,Up,Uq,Ur,Us,Ut,Uu,Uv,Uw,Ux,Uy,Uz,U0,U1,U2,U3,U4,U5,U6,U7,U8,U9,Va,Vb,Vc,Vd,Ve,Vf,Vg,Vh,Vi,Vj,Vk,Vl,Vm,Vn,Vo,Vp,Vq,Vr,Vs,Vt,Vu,Vv,Vw,Vx,Vy,Vz,V0,V1,V2,V3,V4,V5,V6,V7,V8,V9,Wa,Wb,Wc,Wd,We,Wf,Wg,Wh,Wi,Wj,Wk,Wl,Wm,Wn,Wo,Wp,Wq,Wr,Ws,Wt,Wu,Wv,Ww,Wx,Wy,Wz,W0,W1,W2,W3,W4,W5,W6,W7,W8,W9,Ha,Hb,Hc,Hd,He,Hf,Hg,Hh,Hi,Hj,Hk,Hl,Hm,Hn,Ho,Hp,Hq,Hr,Hs,Ht,Hu,Hv,Hw,Hx,Hy,Hz,H0,H1,H2,H3,H4,H5,H6,H7,H8,H9,Na,Nb,Nc,Nd,Ne,Nf,Ng,Nh,Ni,Nj,Nk,Nl,Nm,Nn,No,Np,Nq,Nr,Ns,Nt,Nu,Nv,Nw,Nx,Ny,Nz,N0,N1,N2,N3,N4,N5,N6,N7,N8,N9,Ba,Bb,Bc,Bd,Be,Bf,Bg,Bh,Bi,Bj,Bk,Bl,Bm,Bn,Bo,Bp,Bq,Br,Bs,Bt,Bu,Bv,Bw,Bx,By,Bz,BA,BB,BC,BD,BE,BF,BG,BH,BI,BJ,BK,BL,BM,BN,BO,BP,BQ,BR,BS,BT,BU,BV,BW,BX,BY,BZ,Ca,Cb,q6R0.eq_1,q6R1.eq_1,q6R2.eq_1,q6R3.eq_1,q6R4.eq_1,q6R5.eq_1,q6R6.eq_1,q6R7.eq_1,q6R8.eq_1,q6R9.eq_1,q6R10.eq_1,q6R11.eq_1,q6R12.eq_1,q6R13.eq_1,q6R14.eq_1,q6R15.eq_1,q6R16.eq_1,q6R17.eq_1,q6R18.eq_1,q6R19.eq_1,q6R20.eq_1,q6R21.eq_1,q6R23.eq_1,q6R24.eq_1,q6R22.eq_1,q6R25.eq_1,c_law27_TokenEdits.eq_1,hK,hln,hli,hq',hi'])
  have hi' : ¬ (100 : Int) < ids.length := by omega
  have hAsk := fun b f => ask_P G h q b f id (by omega)
  have hFree := fun b f => free_P G h q b f id (by omega)
  have hKeep := fun b f b2 f2 => keep_P G h q ids b f b2 f2 (by omega) (by omega)
  have hPl := fun b f => place_P G h q b f id (by omega)
  have hSame := fun b f b2 f2 => same_P G h h q q b f b2 f2 (by omega)
  simp only [and_self, decide_true] at hSame
  have hM := fun b f => may_P G h q b f (by omega)
  have hM2 := fun b f => rmay_P G h q b f (by omega)
  have c1 : (0 + q.length) * 8 ≤ 140737488355328 := by omega
  have b1 : q.length * 8 ≤ 140737488355328 := by omega
  have b2 : (q.length + 1) * 8 ≤ 140737488355328 := by omega
  have n1 : q.length ≤ 0 ↔ q.length = 0 := by omega
  have n2 : q.length + 1 ≤ q.length ↔ False := by simp
  have n3 : q.length ≤ q.length + 1 := by omega
  have n4 : (q.length : Int) < ((q.length + 1 : Nat) : Int) := by omega
  have hw := wrap_nat (n := q.length) (by omega)
  have tk : List.take q.length (ints q) = ints q := List.take_of_length_le (by rw [hln]; exact Nat.le_refl _)
  have tk1 : List.take (q.length + 1) (ints q ++ [[AV.int .i64 77]]) = ints q ++ [[AV.int .i64 77]] := List.take_of_length_le (by simp [hln])
  have tk2 : List.take q.length (ints q ++ [[AV.int .i64 77]]) = ints q := List.take_left' hln
  have g77 : (ints q ++ [[AV.int .i64 77]])[q.length]? = some [AV.int .i64 77] := by rw [List.getElem?_append_right (by rw [hln]; exact Nat.le_refl _), hln, Nat.sub_self]; rfl
  have hS00 : ∀ f f2, aP G FT n_ref27_Same [.agg [.int .i64 0, .data false 1 [] f], .agg [.int .i64 0, .data false 1 [] f2]] = some (.bool true) := fun f f2 => by
    have := same_P G 0 0 [] [] false f false f2 (by simp)
    simpa [ints_nil] using this
  cases hm : mayT h q with
  | false =>
    have e1 : askT h q id = (0, [], 2) := by unfold askT; rw [if_neg (by simp [hm])]
    have e2 : freeT h q id = (0, [], 2) := by unfold freeT; rw [if_neg (by simp [hm])]
    have e3 : keepT h q ids = (0, [], 2) := by unfold keepT; rw [if_neg (by simp [hm])]
    have e4 : placeT h q id = -1 := by unfold placeT; rw [if_neg (by simp [hm])]
    simp only [e1, e2, e3, e4, hm, tokV, ints_nil] at hAsk hFree hKeep hPl hM hM2
    (sym => simp [Qa,Qb,Qc,Qd,Qe,Qf,Qg,Qh,Qi,Qj,Qk,Ql,Qm,Qn,Qo,Qp,Qq,Qr,Qs,Qt,Qu,Qv,Qw,Qx,Qy,Qz,Q0,Q1,Q2,Q3,Q4,Q5,Q6,Q7,Q8,Q9,Xa,Xb,Xc,Xd,Xe,Xf,Xg,Xh,Xi,Xj,Xk,Xl,Xm,Xn,Xo,Xp,Xq,Xr,Xs,Xt,Xu,Xv,Xw,Xx,Xy,Xz,X0,X1,X2,X3,X4,X5,X6,X7,X8,X9,Ya,Yb,Yc,Yd,Ye,Yf,Yg,Yh,Yi,Yj,Yk,Yl,Ym,Yn,Yo,Yp,Yq,Yr,Ys,Yt,Yu,Yv,Yw,Yx,Yy,Yz,Y0,Y1,Y2,Y3,Y4,Y5,Y6,Y7,Y8,Y9,Za,Zb,Zc,Zd,Ze,Zf,Zg,Zh,Zi,Zj,Zk,Zl,Zm,Zn,Zo,Zp,Zq,Zr,Zs,Zt,Zu,Zv,Zw,Zx,Zy,Zz,Z0,Z1,Z2,Z3,Z4,Z5,Z6,Z7,Z8,Z9,Ja,Jb,Jc,Jd,Je,Jf,Jg,Jh,Ji,Jj,Jk,Jl,Jm,Jn,Jo,Jp,Jq,Jr,Js,Jt,Ju,Jv,Jw,Jx,Jy,Jz,J0,J1,J2,J3,J4,J5,J6,J7,J8,J9,Ka,Kb,Kc,Kd,Ke,Kf,Kg,Kh,Ki,Kj,Kk,Kl,Km,Kn,Ko,Kp,Kq,Kr,Ks,Kt,Ku,Kv,Kw,Kx,Ky,Kz,K0,K1,K2,K3,K4,K5,K6,K7,K8,K9,Ua,Ub,Uc,Ud,Ue,Uf,Ug,Uh,Ui,Uj,Uk,Ul,Um,Un,Uo,Up,Uq,Ur,Us,Ut,Uu,Uv,Uw,Ux,Uy,Uz,U0,U1,U2,U3,U4,U5,U6,U7,U8,U9,Va,Vb,Vc,Vd,Ve,Vf,Vg,Vh,Vi,Vj,Vk,Vl,Vm,Vn,Vo,Vp,Vq,Vr,Vs,Vt,Vu,Vv,Vw,Vx,Vy,Vz,V0,V1,V2,V3,V4,V5,V6,V7,V8,V9,Wa,Wb,Wc,Wd,We,Wf,Wg,Wh,Wi,Wj,Wk,Wl,Wm,Wn,Wo,Wp,Wq,Wr,Ws,Wt,Wu,Wv,Ww,Wx,Wy,Wz,W0,W1,W2,W3,W4,W5,W6,W7,W8,W9,Ha,Hb,Hc,Hd,He,Hf,Hg,Hh,Hi,Hj,Hk,Hl,Hm,Hn,Ho,Hp,Hq,Hr,Hs,Ht,Hu,Hv,Hw,Hx,Hy,Hz,H0,H1,H2,H3,H4,H5,H6,H7,H8,H9,Na,Nb,Nc,Nd,Ne,Nf,Ng,Nh,Ni,Nj,Nk,Nl,Nm,Nn,No,Np,Nq,Nr,Ns,Nt,Nu,Nv,Nw,Nx,Ny,Nz,N0,N1,N2,N3,N4,N5,N6,N7,N8,N9,Ba,Bb,Bc,Bd,Be,Bf,Bg,Bh,Bi,Bj,Bk,Bl,Bm,Bn,Bo,Bp,Bq,Br,Bs,Bt,Bu,Bv,Bw,Bx,By,Bz,BA,BB,BC,BD,BE,BF,BG,BH,BI,BJ,BK,BL,BM,BN,BO,BP,BQ,BR,BS,BT,BU,BV,BW,BX,BY,BZ,Ca,Cb,q6R0.eq_1,q6R1.eq_1,q6R2.eq_1,q6R3.eq_1,q6R4.eq_1,q6R5.eq_1,q6R6.eq_1,q6R7.eq_1,q6R8.eq_1,q6R9.eq_1,q6R10.eq_1,q6R11.eq_1,q6R12.eq_1,q6R13.eq_1,q6R14.eq_1,q6R15.eq_1,q6R16.eq_1,q6R17.eq_1,q6R18.eq_1,q6R19.eq_1,q6R20.eq_1,q6R21.eq_1,q6R23.eq_1,q6R24.eq_1,q6R22.eq_1,q6R25.eq_1,c_law27_TokenEdits.eq_1,hK,hln,hli,hq',hi',hAsk,hFree,hKeep,hPl,hSame,hM,hM2,b1,b2,n1,n2,n3,n4,hw,tk,tk1,tk2,g77,hS00])
  | true =>
    have hKr := fun b f b2 f2 => rkeep_P G h q b f ids b2 f2 (by omega) (by omega)
    have e3 := keepT_of ids hm
    have lk : (ofT ((allT h q).filter fun x => decide (x ∈ ids))).2.length < 9223372036854775807 := by
      have := ofT_len ((allT h q).filter fun x => decide (x ∈ ids)); have := List.length_filter_le (fun x => decide (x ∈ ids)) (allT h q); have := allT_len h q; omega
    generalize ofT ((allT h q).filter fun x => decide (x ∈ ids)) = K at hKr e3 lk
    have hSk := fun f f2 => same_P G K.1 K.1 K.2 K.2 false f false f2 lk
    simp only [and_self, decide_true] at hSk
    cases hn : numB id with
    | false =>
      have e1 : askT h q id = (0, [], 2) := by unfold askT; rw [if_neg (by simp [hn])]
      have e2 : freeT h q id = (0, [], 2) := by unfold freeT; rw [if_neg (by simp [hn])]
      have e4 : placeT h q id = -1 := by unfold placeT; rw [if_neg (by simp [hn])]
      simp only [e1, e2, e3, e4, hm, tokV, ints_nil] at hAsk hFree hKeep hPl hM hM2 hKr
      by_cases i1 : id < 1
      · (sym => simp [Qa,Qb,Qc,Qd,Qe,Qf,Qg,Qh,Qi,Qj,Qk,Ql,Qm,Qn,Qo,Qp,Qq,Qr,Qs,Qt,Qu,Qv,Qw,Qx,Qy,Qz,Q0,Q1,Q2,Q3,Q4,Q5,Q6,Q7,Q8,Q9,Xa,Xb,Xc,Xd,Xe,Xf,Xg,Xh,Xi,Xj,Xk,Xl,Xm,Xn,Xo,Xp,Xq,Xr,Xs,Xt,Xu,Xv,Xw,Xx,Xy,Xz,X0,X1,X2,X3,X4,X5,X6,X7,X8,X9,Ya,Yb,Yc,Yd,Ye,Yf,Yg,Yh,Yi,Yj,Yk,Yl,Ym,Yn,Yo,Yp,Yq,Yr,Ys,Yt,Yu,Yv,Yw,Yx,Yy,Yz,Y0,Y1,Y2,Y3,Y4,Y5,Y6,Y7,Y8,Y9,Za,Zb,Zc,Zd,Ze,Zf,Zg,Zh,Zi,Zj,Zk,Zl,Zm,Zn,Zo,Zp,Zq,Zr,Zs,Zt,Zu,Zv,Zw,Zx,Zy,Zz,Z0,Z1,Z2,Z3,Z4,Z5,Z6,Z7,Z8,Z9,Ja,Jb,Jc,Jd,Je,Jf,Jg,Jh,Ji,Jj,Jk,Jl,Jm,Jn,Jo,Jp,Jq,Jr,Js,Jt,Ju,Jv,Jw,Jx,Jy,Jz,J0,J1,J2,J3,J4,J5,J6,J7,J8,J9,Ka,Kb,Kc,Kd,Ke,Kf,Kg,Kh,Ki,Kj,Kk,Kl,Km,Kn,Ko,Kp,Kq,Kr,Ks,Kt,Ku,Kv,Kw,Kx,Ky,Kz,K0,K1,K2,K3,K4,K5,K6,K7,K8,K9,Ua,Ub,Uc,Ud,Ue,Uf,Ug,Uh,Ui,Uj,Uk,Ul,Um,Un,Uo,Up,Uq,Ur,Us,Ut,Uu,Uv,Uw,Ux,Uy,Uz,U0,U1,U2,U3,U4,U5,U6,U7,U8,U9,Va,Vb,Vc,Vd,Ve,Vf,Vg,Vh,Vi,Vj,Vk,Vl,Vm,Vn,Vo,Vp,Vq,Vr,Vs,Vt,Vu,Vv,Vw,Vx,Vy,Vz,V0,V1,V2,V3,V4,V5,V6,V7,V8,V9,Wa,Wb,Wc,Wd,We,Wf,Wg,Wh,Wi,Wj,Wk,Wl,Wm,Wn,Wo,Wp,Wq,Wr,Ws,Wt,Wu,Wv,Ww,Wx,Wy,Wz,W0,W1,W2,W3,W4,W5,W6,W7,W8,W9,Ha,Hb,Hc,Hd,He,Hf,Hg,Hh,Hi,Hj,Hk,Hl,Hm,Hn,Ho,Hp,Hq,Hr,Hs,Ht,Hu,Hv,Hw,Hx,Hy,Hz,H0,H1,H2,H3,H4,H5,H6,H7,H8,H9,Na,Nb,Nc,Nd,Ne,Nf,Ng,Nh,Ni,Nj,Nk,Nl,Nm,Nn,No,Np,Nq,Nr,Ns,Nt,Nu,Nv,Nw,Nx,Ny,Nz,N0,N1,N2,N3,N4,N5,N6,N7,N8,N9,Ba,Bb,Bc,Bd,Be,Bf,Bg,Bh,Bi,Bj,Bk,Bl,Bm,Bn,Bo,Bp,Bq,Br,Bs,Bt,Bu,Bv,Bw,Bx,By,Bz,BA,BB,BC,BD,BE,BF,BG,BH,BI,BJ,BK,BL,BM,BN,BO,BP,BQ,BR,BS,BT,BU,BV,BW,BX,BY,BZ,Ca,Cb,q6R0.eq_1,q6R1.eq_1,q6R2.eq_1,q6R3.eq_1,q6R4.eq_1,q6R5.eq_1,q6R6.eq_1,q6R7.eq_1,q6R8.eq_1,q6R9.eq_1,q6R10.eq_1,q6R11.eq_1,q6R12.eq_1,q6R13.eq_1,q6R14.eq_1,q6R15.eq_1,q6R16.eq_1,q6R17.eq_1,q6R18.eq_1,q6R19.eq_1,q6R20.eq_1,q6R21.eq_1,q6R23.eq_1,q6R24.eq_1,q6R22.eq_1,q6R25.eq_1,c_law27_TokenEdits.eq_1,hK,hln,hli,hq',hi',hAsk,hFree,hKeep,hPl,hSame,hM,hM2,hKr,hSk,b1,b2,n1,n2,n3,n4,hw,tk,tk1,tk2,g77,hS00,i1])
      · have i8 : 8 < id := by simp [numB] at hn; omega
        (sym => simp [Qa,Qb,Qc,Qd,Qe,Qf,Qg,Qh,Qi,Qj,Qk,Ql,Qm,Qn,Qo,Qp,Qq,Qr,Qs,Qt,Qu,Qv,Qw,Qx,Qy,Qz,Q0,Q1,Q2,Q3,Q4,Q5,Q6,Q7,Q8,Q9,Xa,Xb,Xc,Xd,Xe,Xf,Xg,Xh,Xi,Xj,Xk,Xl,Xm,Xn,Xo,Xp,Xq,Xr,Xs,Xt,Xu,Xv,Xw,Xx,Xy,Xz,X0,X1,X2,X3,X4,X5,X6,X7,X8,X9,Ya,Yb,Yc,Yd,Ye,Yf,Yg,Yh,Yi,Yj,Yk,Yl,Ym,Yn,Yo,Yp,Yq,Yr,Ys,Yt,Yu,Yv,Yw,Yx,Yy,Yz,Y0,Y1,Y2,Y3,Y4,Y5,Y6,Y7,Y8,Y9,Za,Zb,Zc,Zd,Ze,Zf,Zg,Zh,Zi,Zj,Zk,Zl,Zm,Zn,Zo,Zp,Zq,Zr,Zs,Zt,Zu,Zv,Zw,Zx,Zy,Zz,Z0,Z1,Z2,Z3,Z4,Z5,Z6,Z7,Z8,Z9,Ja,Jb,Jc,Jd,Je,Jf,Jg,Jh,Ji,Jj,Jk,Jl,Jm,Jn,Jo,Jp,Jq,Jr,Js,Jt,Ju,Jv,Jw,Jx,Jy,Jz,J0,J1,J2,J3,J4,J5,J6,J7,J8,J9,Ka,Kb,Kc,Kd,Ke,Kf,Kg,Kh,Ki,Kj,Kk,Kl,Km,Kn,Ko,Kp,Kq,Kr,Ks,Kt,Ku,Kv,Kw,Kx,Ky,Kz,K0,K1,K2,K3,K4,K5,K6,K7,K8,K9,Ua,Ub,Uc,Ud,Ue,Uf,Ug,Uh,Ui,Uj,Uk,Ul,Um,Un,Uo,Up,Uq,Ur,Us,Ut,Uu,Uv,Uw,Ux,Uy,Uz,U0,U1,U2,U3,U4,U5,U6,U7,U8,U9,Va,Vb,Vc,Vd,Ve,Vf,Vg,Vh,Vi,Vj,Vk,Vl,Vm,Vn,Vo,Vp,Vq,Vr,Vs,Vt,Vu,Vv,Vw,Vx,Vy,Vz,V0,V1,V2,V3,V4,V5,V6,V7,V8,V9,Wa,Wb,Wc,Wd,We,Wf,Wg,Wh,Wi,Wj,Wk,Wl,Wm,Wn,Wo,Wp,Wq,Wr,Ws,Wt,Wu,Wv,Ww,Wx,Wy,Wz,W0,W1,W2,W3,W4,W5,W6,W7,W8,W9,Ha,Hb,Hc,Hd,He,Hf,Hg,Hh,Hi,Hj,Hk,Hl,Hm,Hn,Ho,Hp,Hq,Hr,Hs,Ht,Hu,Hv,Hw,Hx,Hy,Hz,H0,H1,H2,H3,H4,H5,H6,H7,H8,H9,Na,Nb,Nc,Nd,Ne,Nf,Ng,Nh,Ni,Nj,Nk,Nl,Nm,Nn,No,Np,Nq,Nr,Ns,Nt,Nu,Nv,Nw,Nx,Ny,Nz,N0,N1,N2,N3,N4,N5,N6,N7,N8,N9,Ba,Bb,Bc,Bd,Be,Bf,Bg,Bh,Bi,Bj,Bk,Bl,Bm,Bn,Bo,Bp,Bq,Br,Bs,Bt,Bu,Bv,Bw,Bx,By,Bz,BA,BB,BC,BD,BE,BF,BG,BH,BI,BJ,BK,BL,BM,BN,BO,BP,BQ,BR,BS,BT,BU,BV,BW,BX,BY,BZ,Ca,Cb,q6R0.eq_1,q6R1.eq_1,q6R2.eq_1,q6R3.eq_1,q6R4.eq_1,q6R5.eq_1,q6R6.eq_1,q6R7.eq_1,q6R8.eq_1,q6R9.eq_1,q6R10.eq_1,q6R11.eq_1,q6R12.eq_1,q6R13.eq_1,q6R14.eq_1,q6R15.eq_1,q6R16.eq_1,q6R17.eq_1,q6R18.eq_1,q6R19.eq_1,q6R20.eq_1,q6R21.eq_1,q6R23.eq_1,q6R24.eq_1,q6R22.eq_1,q6R25.eq_1,c_law27_TokenEdits.eq_1,hK,hln,hli,hq',hi',hAsk,hFree,hKeep,hPl,hSame,hM,hM2,hKr,hSk,b1,b2,n1,n2,n3,n4,hw,tk,tk1,tk2,g77,hS00,i1,i8])
    | true =>
      obtain ⟨i1, i8⟩ := (numB_iff id).1 hn
      have i1' : ¬ id < 1 := by omega
      have i8' : ¬ 8 < id := by omega
      have e1 := askT_of hm hn
      have e2 := freeT_of id hm hn
      have hAr := fun f => ask2_R G h q f id (by omega)
      have hFr := fun b f => rfree_P G h q b f id (by omega)
      have hAll := fun b f => all_P G h q b f (by omega)
      have la : (askR h q id).2.length < 9223372036854775807 := by
        unfold askR
        split
        · simp only; omega
        · have := ofT_len (allT h q ++ [id]); have := allT_len h q; simp only [List.length_append, List.length_singleton] at *; omega
      have lf : (ofT ((allT h q).filter fun x => !decide (x = id))).2.length < 9223372036854775807 := by
        have := ofT_len ((allT h q).filter fun x => !decide (x = id)); have := List.length_filter_le (fun x => !decide (x = id)) (allT h q); have := allT_len h q; omega
      have lp := last_place hm hn
      have key := edits_loop G q (allT h q) id h (askR h q id).1 (ofT ((allT h q).filter fun x => !decide (x = id))).1 0 0 (placeT h q id) (askR h q id).2 (ofT ((allT h q).filter fun x => !decide (x = id))).2 f (by have := allT_len h q; omega) (allT h q).length 0 (-1) (by omega)
      simp only [List.drop_zero, Int.natCast_zero] at key
      rw [lp] at key
      generalize askR h q id = A at *
      generalize ofT ((allT h q).filter fun x => !decide (x = id)) = B0 at *
      have hSa := fun f f2 => same_P G A.1 A.1 A.2 A.2 false f false f2 la
      have hSb := fun f f2 => same_P G B0.1 B0.1 B0.2 B0.2 false f false f2 lf
      simp only [and_self, decide_true] at hSa hSb
      simp only [e1, e2, e3, hm, tokV] at hAsk hFree hKeep hM hM2 hKr hAr hFr
      have enter : ∀ st, agc 0 [1, 3, 8, 9, 10, 11, 14, 15, 16, 17] st = some ⟨[(1, .int .i64 id), (3, .ptr 0 0 0 0), (8, .ptr 1 0 0 0), (9, .int .i64 0), (10, .ptr 2 0 0 0), (11, .int .i64 0), (14, .int .i64 (placeT h q id)), (15, .data false 1 (ints (allT h q)) false), (16, .int .i64 (-1)), (17, .int .i64 0)],
        [⟨2, 0, true, [[.int .i64 h, .data false 1 (ints q) f]]⟩, ⟨2, 0, true, [[.int .i64 A.1, .data false 1 (ints A.2) false]]⟩, ⟨2, 0, true, [[.int .i64 B0.1, .data false 1 (ints B0.2) false]]⟩]⟩ → aE G FT 0 lp_law27_TokenEdits_0 st = aE G FT 0 lp_law27_TokenEdits_0 ⟨[(1, .int .i64 id), (3, .ptr 0 0 0 0), (8, .ptr 1 0 0 0), (9, .int .i64 0), (10, .ptr 2 0 0 0), (11, .int .i64 0), (14, .int .i64 (placeT h q id)), (15, .data false 1 (ints (allT h q)) false), (16, .int .i64 (-1)), (17, .int .i64 0)],
        [⟨2, 0, true, [[.int .i64 h, .data false 1 (ints q) f]]⟩, ⟨2, 0, true, [[.int .i64 A.1, .data false 1 (ints A.2) false]]⟩, ⟨2, 0, true, [[.int .i64 B0.1, .data false 1 (ints B0.2) false]]⟩]⟩ := fun st hst => by
        rw [lp_law27_TokenEdits_0, loop_gc hst ?_]
        (sym => simp [Qa,Qb,Qc,Qd,Qe,Qf,Qg,Qh,Qi,Qj,Qk,Ql,Qm,Qn,Qo,Qp,Qq,Qr,Qs,Qt,Qu,Qv,Qw,Qx,Qy,Qz,Q0,Q1,Q2,Q3,Q4,Q5,Q6,Q7,Q8,Q9,Xa,Xb,Xc,Xd,Xe,Xf,Xg,Xh,Xi,Xj,Xk,Xl,Xm,Xn,Xo,Xp,Xq,Xr,Xs,Xt,Xu,Xv,Xw,Xx,Xy,Xz,X0,X1,X2,X3,X4,X5,X6,X7,X8,X9,Ya,Yb,Yc,Yd,Ye,Yf,Yg,Yh,Yi,Yj,Yk,Yl,Ym,Yn,Yo,Yp,Yq,Yr,Ys,Yt,Yu,Yv,Yw,Yx,Yy,Yz,Y0,Y1,Y2,Y3,Y4,Y5,Y6,Y7,Y8,Y9,Za,Zb,Zc,Zd,Ze,Zf,Zg,Zh,Zi,Zj,Zk,Zl,Zm,Zn,Zo,Zp,Zq,Zr,Zs,Zt,Zu,Zv,Zw,Zx,Zy,Zz,Z0,Z1,Z2,Z3,Z4,Z5,Z6,Z7,Z8,Z9,Ja,Jb,Jc,Jd,Je,Jf,Jg,Jh,Ji,Jj,Jk,Jl,Jm,Jn,Jo,Jp,Jq,Jr,Js,Jt,Ju,Jv,Jw,Jx,Jy,Jz,J0,J1,J2,J3,J4,J5,J6,J7,J8,J9,Ka,Kb,Kc,Kd,Ke,Kf,Kg,Kh,Ki,Kj,Kk,Kl,Km,Kn,Ko,Kp,Kq,Kr,Ks,Kt,Ku,Kv,Kw,Kx,Ky,Kz,K0,K1,K2,K3,K4,K5,K6,K7,K8,K9,Ua,Ub,Uc,Ud,Ue,Uf,Ug,Uh,Ui,Uj,Uk,Ul,Um,Un,Uo,Up,Uq,Ur,Us,Ut,Uu,Uv,Uw,Ux,Uy,Uz,U0,U1,U2,U3,U4,U5,U6,U7,U8,U9,Va,Vb,Vc,Vd,Ve,Vf,Vg,Vh,Vi,Vj,Vk,Vl,Vm,Vn,Vo,Vp,Vq,Vr,Vs,Vt,Vu,Vv,Vw,Vx,Vy,Vz,V0,V1,V2,V3,V4,V5,V6,V7,V8,V9,Wa,Wb,Wc,Wd,We,Wf,Wg,Wh,Wi,Wj,Wk,Wl,Wm,Wn,Wo,Wp,Wq,Wr,Ws,Wt,Wu,Wv,Ww,Wx,Wy,Wz,W0,W1,W2,W3,W4,W5,W6,W7,W8,W9,Ha,Hb,Hc,Hd,He,Hf,Hg,Hh,Hi,Hj,Hk,Hl,Hm,Hn,Ho,Hp,Hq,Hr,Hs,Ht,Hu,Hv,Hw,Hx,Hy,Hz,H0,H1,H2,H3,H4,H5,H6,H7,H8,H9,Na,Nb,Nc,Nd,Ne,Nf,Ng,Nh,Ni,Nj,Nk,Nl,Nm,Nn,No,Np,Nq,Nr,Ns,Nt,Nu,Nv,Nw,Nx,Ny,Nz,N0,N1,N2,N3,N4,N5,N6,N7,N8,N9,Ba,Bb,Bc,Bd,Be,Bf,Bg,Bh,Bi,Bj,Bk,Bl,Bm,Bn,Bo,Bp,Bq,Br,Bs,Bt,Bu,Bv,Bw,Bx,By,Bz,BA,BB,BC,BD,BE,BF,BG,BH,BI,BJ,BK,BL,BM,BN,BO,BP,BQ,BR,BS,BT,BU,BV,BW,BX,BY,BZ,Ca,Cb])
      (sym => simp [Qa,Qb,Qc,Qd,Qe,Qf,Qg,Qh,Qi,Qj,Qk,Ql,Qm,Qn,Qo,Qp,Qq,Qr,Qs,Qt,Qu,Qv,Qw,Qx,Qy,Qz,Q0,Q1,Q2,Q3,Q4,Q5,Q6,Q7,Q8,Q9,Xa,Xb,Xc,Xd,Xe,Xf,Xg,Xh,Xi,Xj,Xk,Xl,Xm,Xn,Xo,Xp,Xq,Xr,Xs,Xt,Xu,Xv,Xw,Xx,Xy,Xz,X0,X1,X2,X3,X4,X5,X6,X7,X8,X9,Ya,Yb,Yc,Yd,Ye,Yf,Yg,Yh,Yi,Yj,Yk,Yl,Ym,Yn,Yo,Yp,Yq,Yr,Ys,Yt,Yu,Yv,Yw,Yx,Yy,Yz,Y0,Y1,Y2,Y3,Y4,Y5,Y6,Y7,Y8,Y9,Za,Zb,Zc,Zd,Ze,Zf,Zg,Zh,Zi,Zj,Zk,Zl,Zm,Zn,Zo,Zp,Zq,Zr,Zs,Zt,Zu,Zv,Zw,Zx,Zy,Zz,Z0,Z1,Z2,Z3,Z4,Z5,Z6,Z7,Z8,Z9,Ja,Jb,Jc,Jd,Je,Jf,Jg,Jh,Ji,Jj,Jk,Jl,Jm,Jn,Jo,Jp,Jq,Jr,Js,Jt,Ju,Jv,Jw,Jx,Jy,Jz,J0,J1,J2,J3,J4,J5,J6,J7,J8,J9,Ka,Kb,Kc,Kd,Ke,Kf,Kg,Kh,Ki,Kj,Kk,Kl,Km,Kn,Ko,Kp,Kq,Kr,Ks,Kt,Ku,Kv,Kw,Kx,Ky,Kz,K0,K1,K2,K3,K4,K5,K6,K7,K8,K9,Ua,Ub,Uc,Ud,Ue,Uf,Ug,Uh,Ui,Uj,Uk,Ul,Um,Un,Uo,Up,Uq,Ur,Us,Ut,Uu,Uv,Uw,Ux,Uy,Uz,U0,U1,U2,U3,U4,U5,U6,U7,U8,U9,Va,Vb,Vc,Vd,Ve,Vf,Vg,Vh,Vi,Vj,Vk,Vl,Vm,Vn,Vo,Vp,Vq,Vr,Vs,Vt,Vu,Vv,Vw,Vx,Vy,Vz,V0,V1,V2,V3,V4,V5,V6,V7,V8,V9,Wa,Wb,Wc,Wd,We,Wf,Wg,Wh,Wi,Wj,Wk,Wl,Wm,Wn,Wo,Wp,Wq,Wr,Ws,Wt,Wu,Wv,Ww,Wx,Wy,Wz,W0,W1,W2,W3,W4,W5,W6,W7,W8,W9,Ha,Hb,Hc,Hd,He,Hf,Hg,Hh,Hi,Hj,Hk,Hl,Hm,Hn,Ho,Hp,Hq,Hr,Hs,Ht,Hu,Hv,Hw,Hx,Hy,Hz,H0,H1,H2,H3,H4,H5,H6,H7,H8,H9,Na,Nb,Nc,Nd,Ne,Nf,Ng,Nh,Ni,Nj,Nk,Nl,Nm,Nn,No,Np,Nq,Nr,Ns,Nt,Nu,Nv,Nw,Nx,Ny,Nz,N0,N1,N2,N3,N4,N5,N6,N7,N8,N9,Ba,Bb,Bc,Bd,Be,Bf,Bg,Bh,Bi,Bj,Bk,Bl,Bm,Bn,Bo,Bp,Bq,Br,Bs,Bt,Bu,Bv,Bw,Bx,By,Bz,BA,BB,BC,BD,BE,BF,BG,BH,BI,BJ,BK,BL,BM,BN,BO,BP,BQ,BR,BS,BT,BU,BV,BW,BX,BY,BZ,Ca,Cb,q6R0.eq_1,q6R1.eq_1,q6R2.eq_1,q6R3.eq_1,q6R4.eq_1,q6R5.eq_1,q6R6.eq_1,q6R7.eq_1,q6R8.eq_1,q6R9.eq_1,q6R10.eq_1,q6R11.eq_1,q6R12.eq_1,q6R13.eq_1,q6R14.eq_1,q6R15.eq_1,q6R16.eq_1,q6R17.eq_1,q6R18.eq_1,q6R19.eq_1,q6R20.eq_1,q6R21.eq_1,q6R23.eq_1,q6R24.eq_1,q6R22.eq_1,q6R25.eq_1,c_law27_TokenEdits.eq_1,hK,hln,hli,hq',hi',hAsk,hFree,hKeep,hPl,hSame,hM,hM2,hKr,hSk,hAll,b1,b2,n1,n2,n3,n4,hw,tk,tk1,tk2,g77,i1',i8']; tactic => (
        rw [enter _ ?hst, key]
        case hst => (sym => simp [Qa,Qb,Qc,Qd,Qe,Qf,Qg,Qh,Qi,Qj,Qk,Ql,Qm,Qn,Qo,Qp,Qq,Qr,Qs,Qt,Qu,Qv,Qw,Qx,Qy,Qz,Q0,Q1,Q2,Q3,Q4,Q5,Q6,Q7,Q8,Q9,Xa,Xb,Xc,Xd,Xe,Xf,Xg,Xh,Xi,Xj,Xk,Xl,Xm,Xn,Xo,Xp,Xq,Xr,Xs,Xt,Xu,Xv,Xw,Xx,Xy,Xz,X0,X1,X2,X3,X4,X5,X6,X7,X8,X9,Ya,Yb,Yc,Yd,Ye,Yf,Yg,Yh,Yi,Yj,Yk,Yl,Ym,Yn,Yo,Yp,Yq,Yr,Ys,Yt,Yu,Yv,Yw,Yx,Yy,Yz,Y0,Y1,Y2,Y3,Y4,Y5,Y6,Y7,Y8,Y9,Za,Zb,Zc,Zd,Ze,Zf,Zg,Zh,Zi,Zj,Zk,Zl,Zm,Zn,Zo,Zp,Zq,Zr,Zs,Zt,Zu,Zv,Zw,Zx,Zy,Zz,Z0,Z1,Z2,Z3,Z4,Z5,Z6,Z7,Z8,Z9,Ja,Jb,Jc,Jd,Je,Jf,Jg,Jh,Ji,Jj,Jk,Jl,Jm,Jn,Jo,Jp,Jq,Jr,Js,Jt,Ju,Jv,Jw,Jx,Jy,Jz,J0,J1,J2,J3,J4,J5,J6,J7,J8,J9,Ka,Kb,Kc,Kd,Ke,Kf,Kg,Kh,Ki,Kj,Kk,Kl,Km,Kn,Ko,Kp,Kq,Kr,Ks,Kt,Ku,Kv,Kw,Kx,Ky,Kz,K0,K1,K2,K3,K4,K5,K6,K7,K8,K9,Ua,Ub,Uc,Ud,Ue,Uf,Ug,Uh,Ui,Uj,Uk,Ul,Um,Un,Uo,Up,Uq,Ur,Us,Ut,Uu,Uv,Uw,Ux,Uy,Uz,U0,U1,U2,U3,U4,U5,U6,U7,U8,U9,Va,Vb,Vc,Vd,Ve,Vf,Vg,Vh,Vi,Vj,Vk,Vl,Vm,Vn,Vo,Vp,Vq,Vr,Vs,Vt,Vu,Vv,Vw,Vx,Vy,Vz,V0,V1,V2,V3,V4,V5,V6,V7,V8,V9,Wa,Wb,Wc,Wd,We,Wf,Wg,Wh,Wi,Wj,Wk,Wl,Wm,Wn,Wo,Wp,Wq,Wr,Ws,Wt,Wu,Wv,Ww,Wx,Wy,Wz,W0,W1,W2,W3,W4,W5,W6,W7,W8,W9,Ha,Hb,Hc,Hd,He,Hf,Hg,Hh,Hi,Hj,Hk,Hl,Hm,Hn,Ho,Hp,Hq,Hr,Hs,Ht,Hu,Hv,Hw,Hx,Hy,Hz,H0,H1,H2,H3,H4,H5,H6,H7,H8,H9,Na,Nb,Nc,Nd,Ne,Nf,Ng,Nh,Ni,Nj,Nk,Nl,Nm,Nn,No,Np,Nq,Nr,Ns,Nt,Nu,Nv,Nw,Nx,Ny,Nz,N0,N1,N2,N3,N4,N5,N6,N7,N8,N9,Ba,Bb,Bc,Bd,Be,Bf,Bg,Bh,Bi,Bj,Bk,Bl,Bm,Bn,Bo,Bp,Bq,Br,Bs,Bt,Bu,Bv,Bw,Bx,By,Bz,BA,BB,BC,BD,BE,BF,BG,BH,BI,BJ,BK,BL,BM,BN,BO,BP,BQ,BR,BS,BT,BU,BV,BW,BX,BY,BZ,Ca,Cb])
        (sym => simp [Qa,Qb,Qc,Qd,Qe,Qf,Qg,Qh,Qi,Qj,Qk,Ql,Qm,Qn,Qo,Qp,Qq,Qr,Qs,Qt,Qu,Qv,Qw,Qx,Qy,Qz,Q0,Q1,Q2,Q3,Q4,Q5,Q6,Q7,Q8,Q9,Xa,Xb,Xc,Xd,Xe,Xf,Xg,Xh,Xi,Xj,Xk,Xl,Xm,Xn,Xo,Xp,Xq,Xr,Xs,Xt,Xu,Xv,Xw,Xx,Xy,Xz,X0,X1,X2,X3,X4,X5,X6,X7,X8,X9,Ya,Yb,Yc,Yd,Ye,Yf,Yg,Yh,Yi,Yj,Yk,Yl,Ym,Yn,Yo,Yp,Yq,Yr,Ys,Yt,Yu,Yv,Yw,Yx,Yy,Yz,Y0,Y1,Y2,Y3,Y4,Y5,Y6,Y7,Y8,Y9,Za,Zb,Zc,Zd,Ze,Zf,Zg,Zh,Zi,Zj,Zk,Zl,Zm,Zn,Zo,Zp,Zq,Zr,Zs,Zt,Zu,Zv,Zw,Zx,Zy,Zz,Z0,Z1,Z2,Z3,Z4,Z5,Z6,Z7,Z8,Z9,Ja,Jb,Jc,Jd,Je,Jf,Jg,Jh,Ji,Jj,Jk,Jl,Jm,Jn,Jo,Jp,Jq,Jr,Js,Jt,Ju,Jv,Jw,Jx,Jy,Jz,J0,J1,J2,J3,J4,J5,J6,J7,J8,J9,Ka,Kb,Kc,Kd,Ke,Kf,Kg,Kh,Ki,Kj,Kk,Kl,Km,Kn,Ko,Kp,Kq,Kr,Ks,Kt,Ku,Kv,Kw,Kx,Ky,Kz,K0,K1,K2,K3,K4,K5,K6,K7,K8,K9,Ua,Ub,Uc,Ud,Ue,Uf,Ug,Uh,Ui,Uj,Uk,Ul,Um,Un,Uo,Up,Uq,Ur,Us,Ut,Uu,Uv,Uw,Ux,Uy,Uz,U0,U1,U2,U3,U4,U5,U6,U7,U8,U9,Va,Vb,Vc,Vd,Ve,Vf,Vg,Vh,Vi,Vj,Vk,Vl,Vm,Vn,Vo,Vp,Vq,Vr,Vs,Vt,Vu,Vv,Vw,Vx,Vy,Vz,V0,V1,V2,V3,V4,V5,V6,V7,V8,V9,Wa,Wb,Wc,Wd,We,Wf,Wg,Wh,Wi,Wj,Wk,Wl,Wm,Wn,Wo,Wp,Wq,Wr,Ws,Wt,Wu,Wv,Ww,Wx,Wy,Wz,W0,W1,W2,W3,W4,W5,W6,W7,W8,W9,Ha,Hb,Hc,Hd,He,Hf,Hg,Hh,Hi,Hj,Hk,Hl,Hm,Hn,Ho,Hp,Hq,Hr,Hs,Ht,Hu,Hv,Hw,Hx,Hy,Hz,H0,H1,H2,H3,H4,H5,H6,H7,H8,H9,Na,Nb,Nc,Nd,Ne,Nf,Ng,Nh,Ni,Nj,Nk,Nl,Nm,Nn,No,Np,Nq,Nr,Ns,Nt,Nu,Nv,Nw,Nx,Ny,Nz,N0,N1,N2,N3,N4,N5,N6,N7,N8,N9,Ba,Bb,Bc,Bd,Be,Bf,Bg,Bh,Bi,Bj,Bk,Bl,Bm,Bn,Bo,Bp,Bq,Br,Bs,Bt,Bu,Bv,Bw,Bx,By,Bz,BA,BB,BC,BD,BE,BF,BG,BH,BI,BJ,BK,BL,BM,BN,BO,BP,BQ,BR,BS,BT,BU,BV,BW,BX,BY,BZ,Ca,Cb,q6R0.eq_1,q6R1.eq_1,q6R2.eq_1,q6R3.eq_1,q6R4.eq_1,q6R5.eq_1,q6R6.eq_1,q6R7.eq_1,q6R8.eq_1,q6R9.eq_1,q6R10.eq_1,q6R11.eq_1,q6R12.eq_1,q6R13.eq_1,q6R14.eq_1,q6R15.eq_1,q6R16.eq_1,q6R17.eq_1,q6R18.eq_1,q6R19.eq_1,q6R20.eq_1,q6R21.eq_1,q6R23.eq_1,q6R24.eq_1,q6R22.eq_1,q6R25.eq_1,c_law27_TokenEdits.eq_1,hAr,hFr,hSa,hSb])))
theorem law_TokenEdits (a0 : List AV) (a1 a2 : AV) (h0 : HasTys [.int .i64, .sl [.int .i64]] a0) (h1 : HasTy (.int .i64) a1) (h2 : HasTy (.sl [.int .i64]) a2) : aP G FT n_law27_TokenEdits [.agg a0, a1, a2] = some (.bool true) := by
  obtain ⟨c0, r0, rfl, i0, j0⟩ := tys_cons h0
  obtain ⟨c1, r1, rfl, i1, j1⟩ := tys_cons j0
  have := tys_nil j1
  subst this
  obtain ⟨h, rfl, _⟩ := ty_int i0
  obtain ⟨q, f, rfl, _, _⟩ := ty_ints i1
  obtain ⟨id, rfl, _⟩ := ty_int h1
  obtain ⟨ids, f2, rfl, _, _⟩ := ty_ints h2
  exact edits_P G h q ids id f f2
end Go.Proofs.Ytfnonledcniojaa
