/- RosterEdits, RosterAsks: the laws. Conditions: as each statement says. -/
import Derived.Test.YtfnonledcniojaaRos5
import Derived.Test.YtfnonledcniojaaM3
set_option linter.unusedVariables false
set_option linter.unusedSimpArgs false
set_option linter.unusedSectionVars false
set_option maxRecDepth 20000
set_option maxHeartbeats 4000000
namespace Go.Proofs.Ytfnonledcniojaa
open Go
variable (G : Nat → Option (List AV))
theorem ty_mbs {a : AV} (h : HasTy (.sl [.int .i64, .int .i64]) a) : ∃ l f, a = .data false 2 (mbs l) f := by
  simp only [HasTy] at h
  obtain ⟨es, f, rfl, hl, he⟩ := h
  obtain ⟨l, rfl, _⟩ := list_of (Q := fun _ => True) (f := cm) es (fun g hg => by
    obtain ⟨a, as, rfl, ha, h2⟩ := tys_cons (he g hg)
    obtain ⟨b, bs, rfl, hb, h3⟩ := tys_cons h2
    have := tys_nil h3
    subst this
    obtain ⟨x, rfl, _⟩ := ty_int ha
    obtain ⟨y, rfl, _⟩ := ty_int hb
    exact ⟨(x, y), rfl, trivial⟩)
  exact ⟨l, f, rfl⟩
theorem withM_len (l : List (Int × Int)) (id r : Int) : (withM l id r).length < 1000000 := by have := ros_len (setR (roleOf l) id r) 8 1; unfold withM; omega
theorem joinM_len (l : List (Int × Int)) (id r : Int) : (joinM l id r).1.length < 1000000 := by
  unfold joinM
  split
  · split
    · exact withM_len l id r
    · simp
  · simp
theorem leaveM_len (l : List (Int × Int)) (id : Int) : (leaveM l id).1.length < 1000000 := by
  unfold leaveM
  split
  · split
    · exact withM_len l id 0
    · simp
  · simp
theorem changeM_len (l : List (Int × Int)) (id r : Int) : (changeM l id r).1.length < 1000000 := by
  unfold changeM
  split
  · split
    · exact withM_len l id r
    · simp
  · simp
theorem same26_self (l : List (Int × Int)) (h : l.length < 1000000) (b1 f1 b2 f2 : Bool) : aP G FT n_ref26_Same [.data b1 2 (mbs l) f1, .data b2 2 (mbs l) f2] = some (.bool true) := by
  rw [same26_P G l l b1 f1 b2 f2 h, decide_eq_true rfl]
theorem edits26_P (l : List (Int × Int)) (f : Bool) (id r : Int) : aP G FT n_law26_RosterEdits [.data false 2 (mbs l) f, .int .i64 id, .int .i64 r] = some (.bool true) := by
  have hK := known26_P G
  have hln := mbs_len l
  unfold aP
  rw [run_law26_RosterEdits]
  by_cases hq : 100 < l.length
  · have hq' : (100 : Int) < l.length := by omega
    (sym => simp [Qa,Qb,Qc,Qd,Qe,Qf,Qg,Qh,Qi,Qj,Qk,Ql,Qm,Qn,Qo,Qp,Qq,Qr,Qs,Qt,Qu,Qv,Qw,Qx,Qy,Qz,Q0,Q1,Q2,Q3,Q4,Q5,Q6,Q7,Q8,Q9,Xa,Xb,Xc,Xd,Xe,Xf,Xg,Xh,Xi,Xj,Xk,Xl,Xm,Xn,Xo,Xp,Xq,Xr,Xs,Xt,Xu,Xv,Xw,Xx,Xy,Xz,X0,X1,X2,X3,X4,X5,X6,X7,X8,X9,Ya,Yb,Yc,Yd,Ye,Yf,Yg,Yh,Yi,Yj,Yk,Yl,Ym,Yn,Yo,Yp,Yq,Yr,Ys,Yt,Yu,Yv,Yw,Yx,Yy,Yz,Y0,Y1,Y2,Y3,Y4,Y5,Y6,Y7,Y8,Y9,Za,Zb,Zc,Zd,Ze,Zf,Zg,Zh,Zi,Zj,Zk,Zl,Zm,Zn,Zo,Zp,Zq,Zr,Zs,Zt,Zu,Zv,Zw,Zx,Zy,Zz,Z0,Z1,Z2,Z3,Z4,Z5,Z6,Z7,Z8,Z9,Ja,Jb,Jc,Jd,Je,Jf,Jg,Jh,Ji,Jj,Jk,Jl,Jm,Jn,Jo,Jp,Jq,Jr,Js,Jt,Ju,Jv,Jw,Jx,Jy,Jz,J0,J1,J2,J3,J4,J5,J6,J7,J8,J9,Ka,Kb,Kc,Kd,Ke,Kf,Kg,Kh,Ki,Kj,Kk,Kl,Km,Kn,Ko,Kp,Kq,Kr,Ks,Kt,Ku,Kv,Kw,Kx,Ky,Kz,K0,K1,K2,K3,K4,K5,K6,K7,K8,K9,Ua,Ub,Uc,Ud,Ue,Uf,Ug,Uh,Ui,Uj,Uk,Ul,Um,Un,Uo,Up,Uq,Ur,Us,Ut,Uu,Uv,Uw,Ux,Uy,Uz,U0,U1,U2,U3,U4,U5,U6,U7,U8,U9,Va,Vb,Vc,Vd,Ve,Vf,Vg,Vh,Vi,Vj,Vk,Vl,Vm,Vn,Vo,Vp,Vq,Vr,Vs,Vt,Vu,Vv,Vw,Vx,Vy,Vz,V0,V1,V2,V3,V4,V5,V6,V7,V8,V9,Wa,Wb,Wc,Wd,We,Wf,Wg,Wh,Wi,Wj,Wk,Wl,Wm,Wn,Wo,Wp,Wq,Wr,Ws,Wt,Wu,Wv,Ww,Wx,Wy,Wz,W0,W1,W2,W3,W4,W5,W6,W7,W8,W9,Ha,Hb,Hc,Hd,He,Hf,Hg,Hh,Hi,Hj,Hk,Hl,Hm,Hn,Ho,Hp,Hq,Hr,Hs,Ht,Hu,Hv,Hw,Hx,Hy,Hz,H0,H1,H2,H3,H4,H5,H6,H7,H8,H9,Na,Nb,Nc,Nd,Ne,Nf,Ng,Nh,Ni,Nj,Nk,Nl,Nm,Nn,No,Np,Nq,Nr,Ns,Nt,Nu,Nv,Nw,Nx,Ny,Nz,N0,N1,N2,N3,N4,N5,N6,N7,N8,N9,Ba,Bb,Bc,Bd,Be,Bf,Bg,Bh,Bi,Bj,Bk,Bl,Bm,Bn,Bo,Bp,Bq,Br,Bs,Bt,Bu,Bv,Bw,Bx,By,Bz,BA,BB,BC,BD,BE,BF,BG,BH,BI,BJ,BK,BL,BM,BN,BO,BP,BQ,BR,BS,BT,BU,BV,BW,BX,BY,BZ,Ca,Cb,q4R0.eq_1,q4R1.eq_1,q4R2.eq_1,q4R3.eq_1,q4R4.eq_1,q4R5.eq_1,q4R6.eq_1,q4R7.eq_1,q4R8.eq_1,q4R9.eq_1,q4R10.eq_1,q4R11.eq_1,q4R12.eq_1,c_law26_RosterEdits.eq_1,hK,hln,hq'])
  have hq' : ¬ (100 : Int) < l.length := by omega
  have hJ := fun b f => join_P G l b f id r (by omega)
  have hL := fun b f => leave_P G l b f id (by omega)
  have hC := fun b f => change_P G l b f id r (by omega)
  have hJ2 := fun b f => rjoin_P G l b f id r (by omega)
  have hL2 := fun b f => rleave_P G l b f id (by omega)
  have hC2 := fun b f => rchange_P G l b f id r (by omega)
  have hS0 := same26_self G l (by omega)
  have hS1 := same26_self G _ (joinM_len l id r)
  have hS2 := same26_self G _ (leaveM_len l id)
  have hS3 := same26_self G _ (changeM_len l id r)
  generalize joinM l id r = J at *
  generalize leaveM l id = L at *
  generalize changeM l id r = C at *
  have c1 : (0 + l.length) * 16 ≤ 140737488355328 := by omega
  have b1 : l.length * 16 ≤ 140737488355328 := by omega
  have b2 : (l.length + 1) * 16 ≤ 140737488355328 := by omega
  have n1 : l.length ≤ 0 ↔ l.length = 0 := by omega
  have n2 : l.length + 1 ≤ l.length ↔ False := by simp
  have n3 : l.length ≤ l.length + 1 := by omega
  have n4 : (l.length : Int) < ((l.length + 1 : Nat) : Int) := by omega
  have hw := wrap_nat (n := l.length) (by omega)
  have tk : List.take l.length (mbs l) = mbs l := List.take_of_length_le (by rw [hln]; exact Nat.le_refl _)
  have tk1 : List.take (l.length + 1) (mbs l ++ [[AV.int .i64 77, AV.int .i64 0]]) = mbs l ++ [[AV.int .i64 77, AV.int .i64 0]] := List.take_of_length_le (by simp [hln])
  have tk2 : List.take l.length (mbs l ++ [[AV.int .i64 77, AV.int .i64 0]]) = mbs l := List.take_left' hln
  have g77 : (mbs l ++ [[AV.int .i64 77, AV.int .i64 0]])[l.length]? = some [AV.int .i64 77, AV.int .i64 0] := by rw [List.getElem?_append_right (by rw [hln]; exact Nat.le_refl _), hln, Nat.sub_self]; rfl
  (sym => simp [Qa,Qb,Qc,Qd,Qe,Qf,Qg,Qh,Qi,Qj,Qk,Ql,Qm,Qn,Qo,Qp,Qq,Qr,Qs,Qt,Qu,Qv,Qw,Qx,Qy,Qz,Q0,Q1,Q2,Q3,Q4,Q5,Q6,Q7,Q8,Q9,Xa,Xb,Xc,Xd,Xe,Xf,Xg,Xh,Xi,Xj,Xk,Xl,Xm,Xn,Xo,Xp,Xq,Xr,Xs,Xt,Xu,Xv,Xw,Xx,Xy,Xz,X0,X1,X2,X3,X4,X5,X6,X7,X8,X9,Ya,Yb,Yc,Yd,Ye,Yf,Yg,Yh,Yi,Yj,Yk,Yl,Ym,Yn,Yo,Yp,Yq,Yr,Ys,Yt,Yu,Yv,Yw,Yx,Yy,Yz,Y0,Y1,Y2,Y3,Y4,Y5,Y6,Y7,Y8,Y9,Za,Zb,Zc,Zd,Ze,Zf,Zg,Zh,Zi,Zj,Zk,Zl,Zm,Zn,Zo,Zp,Zq,Zr,Zs,Zt,Zu,Zv,Zw,Zx,Zy,Zz,Z0,Z1,Z2,Z3,Z4,Z5,Z6,Z7,Z8,Z9,Ja,Jb,Jc,Jd,Je,Jf,Jg,Jh,Ji,Jj,Jk,Jl,Jm,Jn,Jo,Jp,Jq,Jr,Js,Jt,Ju,Jv,Jw,Jx,Jy,Jz,J0,J1,J2,J3,J4,J5,J6,J7,J8,J9,Ka,Kb,Kc,Kd,Ke,Kf,Kg,Kh,Ki,Kj,Kk,Kl,Km,Kn,Ko,Kp,Kq,Kr,Ks,Kt,Ku,Kv,Kw,Kx,Ky,Kz,K0,K1,K2,K3,K4,K5,K6,K7,K8,K9,Ua,Ub,Uc,Ud,Ue,Uf,Ug,Uh,Ui,Uj,Uk,Ul,Um,Un,Uo,Up,Uq,Ur,Us,Ut,Uu,Uv,Uw,Ux,Uy,Uz,U0,U1,U2,U3,U4,U5,U6,U7,U8,U9,Va,Vb,Vc,Vd,Ve,Vf,Vg,Vh,Vi,Vj,Vk,Vl,Vm,Vn,Vo,Vp,Vq,Vr,Vs,Vt,Vu,Vv,Vw,Vx,Vy,Vz,V0,V1,V2,V3,V4,V5,V6,V7,V8,V9,Wa,Wb,Wc,Wd,We,Wf,Wg,Wh,Wi,Wj,Wk,Wl,Wm,Wn,Wo,Wp,Wq,Wr,Ws,Wt,Wu,Wv,Ww,Wx,Wy,Wz,W0,W1,W2,W3,W4,W5,W6,W7,W8,W9,Ha,Hb,Hc,Hd,He,Hf,Hg,Hh,Hi,Hj,Hk,Hl,Hm,Hn,Ho,Hp,Hq,Hr,Hs,Ht,Hu,Hv,Hw,Hx,Hy,Hz,H0,H1,H2,H3,H4,H5,H6,H7,H8,H9,Na,Nb,Nc,Nd,Ne,Nf,Ng,Nh,Ni,Nj,Nk,Nl,Nm,Nn,No,Np,Nq,Nr,Ns,Nt,Nu,Nv,Nw,Nx,Ny,Nz,N0,N1,N2,N3,N4,N5,N6,N7,N8,N9,Ba,Bb,Bc,Bd,Be,Bf,Bg,Bh,Bi,Bj,Bk,Bl,Bm,Bn,Bo,Bp,Bq,Br,Bs,Bt,Bu,Bv,Bw,Bx,By,Bz,BA,BB,BC,BD,BE,BF,BG,BH,BI,BJ,BK,BL,BM,BN,BO,BP,BQ,BR,BS,BT,BU,BV,BW,BX,BY,BZ,Ca,Cb,q4R0.eq_1,q4R1.eq_1,q4R2.eq_1,q4R3.eq_1,q4R4.eq_1,q4R5.eq_1,q4R6.eq_1,q4R7.eq_1,q4R8.eq_1,q4R9.eq_1,q4R10.eq_1,q4R11.eq_1,q4R12.eq_1,c_law26_RosterEdits.eq_1,hK,hln,hq',hJ,hL,hC,hJ2,hL2,hC2,hS0,hS1,hS2,hS3,c1,b1,b2,n1,n2,n3,n4,hw,tk,tk1,tk2,g77])
theorem law_RosterEdits (a0 a1 a2 : AV) (h0 : HasTy (.sl [.int .i64, .int .i64]) a0) (h1 : HasTy (.int .i64) a1) (h2 : HasTy (.int .i64) a2) : aP G FT n_law26_RosterEdits [a0, a1, a2] = some (.bool true) := by
  obtain ⟨l, f, rfl⟩ := ty_mbs h0
  obtain ⟨id, rfl, _⟩ := ty_int h1
  obtain ⟨r, rfl, _⟩ := ty_int h2
  exact edits26_P G l f id r
/-! ### RosterAsks -/
end Go.Proofs.Ytfnonledcniojaa
