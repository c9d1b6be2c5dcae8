/- VtCancels: the second loop, whole. Conditions: none. -/
import Derived.Test.YtkkcblfoaldckaaVx2
set_option linter.unusedVariables false
set_option linter.unusedSimpArgs false
set_option linter.unusedSectionVars false
set_option maxRecDepth 20000
set_option maxHeartbeats 4000000
namespace Go.Proofs.Ytkkcblfoaldckaa
open Go
variable (G : Nat → Option (List AV))
theorem stc_split {o : ARow} {h : List ARow} {s : VS} (hs : Stc o h s) : ∃ p R, h = p :: o :: R := by
  cases s with
  | nil | esc | seq0 | txt0 => obtain ⟨_, _, e⟩ := hs; exact ⟨_, _, e⟩
  | seq1 | txt1 => obtain ⟨_, _, _, e, _⟩ := hs; exact ⟨_, _, e⟩
theorem stc_swap {o o' p : ARow} {R : List ARow} {s : VS} (hs : Stc o (p :: o :: R) s) : Stc o' (p :: o' :: R) s := by
  cases s with
  | nil | esc | seq0 | txt0 => obtain ⟨f, R', e⟩ := hs; cases e; exact ⟨f, R, rfl⟩
  | seq1 | txt1 =>
    obtain ⟨i, g, R', e, hi, hr⟩ := hs
    cases e
    refine ⟨i, g, R, rfl, hi, ?_⟩
    obtain ⟨k, rfl⟩ : ∃ k, i = k + 1 + 1 := ⟨i - 2, by omega⟩
    simpa using hr
theorem canonRc_split (o : ARow) (s : VS) (fl : Bool) : ∃ p R, canonRc o s fl = p :: o :: R := by cases s <;> exact ⟨_, _, rfl⟩
theorem canc_loop1 (l : List Int) (bl fl : Bool) (hl : l.length ≤ 10000) : ∀ m i, i + m = l.length → ∀ (s : VS) (out : List Act') (k g : Nat) (h : List ARow) (f2 : Bool), vtOk2 s → out.length ≤ 2 * i →
    agc 0 [1, 5, 8, 9] ⟨[(1, .data bl 1 (rn l) fl), (5, .ptr 0 0 0 0), (8, .own k g 0 out.length out.length), (9, .int .i64 i)], h⟩ = some ⟨[(1, .data bl 1 (rn l) fl), (5, .ptr 0 0 0 0), (8, .own 1 0 0 out.length out.length), (9, .int .i64 i)], canonRc ⟨6, 0, true, actG out⟩ s f2⟩ →
    ∃ p R, aE G FT 0 lp_law11_VtCancels_1 ⟨[(1, .data bl 1 (rn l) fl), (5, .ptr 0 0 0 0), (8, .own k g 0 out.length out.length), (9, .int .i64 i)], h⟩ =
      some (.exit 2, ⟨[(1, .data bl 1 (rn l) fl), (5, .ptr 0 0 0 0), (8, .own 1 0 0 (out ++ vtRun s (l.drop i)).length (out ++ vtRun s (l.drop i)).length), (9, .int .i64 l.length), (62, .bool false)], p :: ⟨6, 0, true, actG (out ++ vtRun s (l.drop i))⟩ :: R⟩) := by
  intro m
  have rl := rn_len l
  induction m with
  | zero =>
    intro i hi s out k g h f2 ok ho hg
    obtain rfl : i = l.length := by omega
    have h4 : ¬ (l.length : Int) < l.length := by omega
    have e : out ++ vtRun s (l.drop l.length) = out := by simp [vtRun]
    obtain ⟨p, R, hc⟩ := canonRc_split ⟨6, 0, true, actG out⟩ s f2
    refine ⟨p, R, ?_⟩
    rw [lp_law11_VtCancels_1, y_loop, hg, e, hc]
    (sym => simp [Qa,Qb,Qc,Qd,Qe,Qf,Qg,Qh,Qi,Qj,Qk,Ql,Qm,Qn,Qo,Qp,Qq,Qr,Qs,Qt,Qu,Qv,Qw,Qx,Qy,Qz,Q0,Q1,Q2,Q3,Q4,Q5,Q6,Q7,Q8,Q9,Xa,Xb,Xc,Xd,Xe,Xf,Xg,Xh,Xi,Xj,Xk,Xl,Xm,Xn,Xo,Xp,Xq,Xr,Xs,Xt,Xu,Xv,Xw,Xx,Xy,Xz,X0,X1,X2,X3,X4,X5,X6,X7,X8,X9,Ya,Yb,Yc,Yd,Ye,Yf,Yg,Yh,Yi,Yj,Yk,Yl,Ym,Yn,Yo,Yp,Yq,Yr,Ys,Yt,Yu,Yv,Yw,Yx,Yy,Yz,Y0,Y1,Y2,Y3,Y4,Y5,Y6,Y7,Y8,Y9,Za,Zb,Zc,Zd,Ze,Zf,Zg,Zh,Zi,Zj,Zk,Zl,Zm,Zn,Zo,Zp,Zq,Zr,Zs,Zt,Zu,Zv,Zw,Zx,Zy,Zz,Z0,Z1,Z2,Z3,Z4,Z5,Z6,Z7,Z8,Z9,Ja,Jb,Jc,Jd,Je,Jf,Jg,Jh,Ji,Jj,Jk,Jl,Jm,Jn,Jo,Jp,Jq,Jr,Js,Jt,Ju,Jv,Jw,Jx,Jy,Jz,J0,J1,J2,J3,J4,J5,J6,J7,J8,J9,Ka,Kb,Kc,Kd,Ke,Kf,Kg,Kh,Ki,Kj,Kk,Kl,Km,Kn,Ko,Kp,Kq,Kr,Ks,Kt,Ku,Kv,Kw,Kx,Ky,Kz,K0,K1,K2,K3,K4,K5,K6,K7,K8,K9,Ua,Ub,Uc,Ud,Ue,Uf,Ug,Uh,Ui,Uj,Uk,Ul,Um,Un,Uo,Up,Uq,Ur,Us,Ut,Uu,Uv,Uw,Ux,Uy,Uz,U0,U1,U2,U3,U4,U5,U6,U7,U8,U9,Va,Vb,Vc,Vd,Ve,Vf,Vg,Vh,Vi,Vj,Vk,Vl,Vm,Vn,Vo,Vp,Vq,Vr,Vs,Vt,Vu,Vv,Vw,Vx,Vy,Vz,V0,V1,V2,V3,V4,V5,V6,V7,V8,V9,Wa,Wb,Wc,Wd,We,Wf,Wg,Wh,Wi,Wj,Wk,Wl,Wm,Wn,Wo,Wp,Wq,Wr,Ws,Wt,Wu,Wv,Ww,Wx,Wy,Wz,W0,W1,W2,W3,W4,W5,W6,W7,W8,W9,Ha,Hb,Hc,Hd,He,Hf,Hg,Hh,Hi,Hj,Hk,Hl,Hm,Hn,Ho,Hp,Hq,Hr,Hs,Ht,Hu,Hv,Hw,Hx,Hy,Hz,H0,H1,H2,H3,H4,H5,H6,H7,H8,H9,Na,Nb,Nc,Nd,Ne,Nf,Ng,Nh,Ni,Nj,Nk,Nl,Nm,Nn,No,Np,Nq,Nr,Ns,Nt,Nu,Nv,Nw,Nx,Ny,Nz,N0,N1,N2,N3,N4,N5,N6,N7,N8,N9,Ba,Bb,Bc,Bd,Be,Bf,Bg,Bh,Bi,Bj,Bk,Bl,Bm,Bn,Bo,Bp,Bq,Br,Bs,Bt,Bu,Bv,Bw,Bx,By,Bz,BA,BB,BC,q0R0.eq_1,q0R1.eq_1,q0R2.eq_1,q0R3.eq_1,q0R4.eq_1,q0R5.eq_1,q0R6.eq_1,q0R7.eq_1,q0R8.eq_1,q0R9.eq_1,q0R11.eq_1,q0R10.eq_1,q0R12.eq_1,q0R13.eq_1,q0R14.eq_1,q0R15.eq_1,q0R16.eq_1,q0R17.eq_1,q0R19.eq_1,q0R18.eq_1,q0R20.eq_1,c_law11_VtCancels.eq_1,c_law11_VtCancels_L1.eq_1,h4,rl])
  | succ m ih =>
    intro i hi s out k g h f2 ok ho hg
    have hn : i < l.length := by omega
    obtain ⟨b, hy, p1, p2⟩ := put_okc G ⟨6, 0, true, actG out⟩ f2 s ok l[i]
    have hc := put_count s l[i]
    obtain ⟨p, hr, rfl⟩ := stc_split p2
    have ol := actG_len out
    have od : (actG out).take out.length = actG out := List.take_of_length_le (by rw [ol]; exact Nat.le_refl _)
    have pl := actG_len (vtPut s l[i]).1
    have hw := wrap_nat (n := i) (by omega)
    have q1 : (i : Int) < l.length := by omega
    have a1 := rn_at hn
    have q2 : (out.length + (vtPut s l[i]).1.length) * 80 ≤ 140737488355328 := by omega
    obtain ⟨f3, hg3⟩ := canc_gc1 (actG (out ++ (vtPut s l[i]).1)) 1 (out ++ (vtPut s l[i]).1).length (.data bl 1 (rn l) fl) (by simp [AV.ids]) (fun _ _ _ _ => by simp [AV.ren]) ((i + 1 : Nat) : Int) (p :: ⟨6, 1, true, actG (out ++ (vtPut s l[i]).1)⟩ :: hr) (vtPut s l[i]).2 (stc_swap p2)
    obtain ⟨p', R, ih⟩ := ih (i + 1) (by omega) (vtPut s l[i]).2 (out ++ (vtPut s l[i]).1) 1 1 _ f3 (put_ok2 s ok _) (by rw [List.length_append]; omega) hg3
    refine ⟨p', R, ?_⟩
    rw [show out ++ vtRun s (l.drop i) = out ++ (vtPut s l[i]).1 ++ vtRun (vtPut s l[i]).2 (l.drop (i + 1)) from by rw [List.drop_eq_getElem_cons hn, vtRun, List.append_assoc]]
    obtain ⟨p0, R0, hcn⟩ := canonRc_split ⟨6, 0, true, actG out⟩ s f2
    rw [hcn] at hg p1
    rw [lp_law11_VtCancels_1] at ih
    rw [lp_law11_VtCancels_1, y_loop, hg, ← ih]
    (sym => simp [Qa,Qb,Qc,Qd,Qe,Qf,Qg,Qh,Qi,Qj,Qk,Ql,Qm,Qn,Qo,Qp,Qq,Qr,Qs,Qt,Qu,Qv,Qw,Qx,Qy,Qz,Q0,Q1,Q2,Q3,Q4,Q5,Q6,Q7,Q8,Q9,Xa,Xb,Xc,Xd,Xe,Xf,Xg,Xh,Xi,Xj,Xk,Xl,Xm,Xn,Xo,Xp,Xq,Xr,Xs,Xt,Xu,Xv,Xw,Xx,Xy,Xz,X0,X1,X2,X3,X4,X5,X6,X7,X8,X9,Ya,Yb,Yc,Yd,Ye,Yf,Yg,Yh,Yi,Yj,Yk,Yl,Ym,Yn,Yo,Yp,Yq,Yr,Ys,Yt,Yu,Yv,Yw,Yx,Yy,Yz,Y0,Y1,Y2,Y3,Y4,Y5,Y6,Y7,Y8,Y9,Za,Zb,Zc,Zd,Ze,Zf,Zg,Zh,Zi,Zj,Zk,Zl,Zm,Zn,Zo,Zp,Zq,Zr,Zs,Zt,Zu,Zv,Zw,Zx,Zy,Zz,Z0,Z1,Z2,Z3,Z4,Z5,Z6,Z7,Z8,Z9,Ja,Jb,Jc,Jd,Je,Jf,Jg,Jh,Ji,Jj,Jk,Jl,Jm,Jn,Jo,Jp,Jq,Jr,Js,Jt,Ju,Jv,Jw,Jx,Jy,Jz,J0,J1,J2,J3,J4,J5,J6,J7,J8,J9,Ka,Kb,Kc,Kd,Ke,Kf,Kg,Kh,Ki,Kj,Kk,Kl,Km,Kn,Ko,Kp,Kq,Kr,Ks,Kt,Ku,Kv,Kw,Kx,Ky,Kz,K0,K1,K2,K3,K4,K5,K6,K7,K8,K9,Ua,Ub,Uc,Ud,Ue,Uf,Ug,Uh,Ui,Uj,Uk,Ul,Um,Un,Uo,Up,Uq,Ur,Us,Ut,Uu,Uv,Uw,Ux,Uy,Uz,U0,U1,U2,U3,U4,U5,U6,U7,U8,U9,Va,Vb,Vc,Vd,Ve,Vf,Vg,Vh,Vi,Vj,Vk,Vl,Vm,Vn,Vo,Vp,Vq,Vr,Vs,Vt,Vu,Vv,Vw,Vx,Vy,Vz,V0,V1,V2,V3,V4,V5,V6,V7,V8,V9,Wa,Wb,Wc,Wd,We,Wf,Wg,Wh,Wi,Wj,Wk,Wl,Wm,Wn,Wo,Wp,Wq,Wr,Ws,Wt,Wu,Wv,Ww,Wx,Wy,Wz,W0,W1,W2,W3,W4,W5,W6,W7,W8,W9,Ha,Hb,Hc,Hd,He,Hf,Hg,Hh,Hi,Hj,Hk,Hl,Hm,Hn,Ho,Hp,Hq,Hr,Hs,Ht,Hu,Hv,Hw,Hx,Hy,Hz,H0,H1,H2,H3,H4,H5,H6,H7,H8,H9,Na,Nb,Nc,Nd,Ne,Nf,Ng,Nh,Ni,Nj,Nk,Nl,Nm,Nn,No,Np,Nq,Nr,Ns,Nt,Nu,Nv,Nw,Nx,Ny,Nz,N0,N1,N2,N3,N4,N5,N6,N7,N8,N9,Ba,Bb,Bc,Bd,Be,Bf,Bg,Bh,Bi,Bj,Bk,Bl,Bm,Bn,Bo,Bp,Bq,Br,Bs,Bt,Bu,Bv,Bw,Bx,By,Bz,BA,BB,BC,q0R0.eq_1,q0R1.eq_1,q0R2.eq_1,q0R3.eq_1,q0R4.eq_1,q0R5.eq_1,q0R6.eq_1,q0R7.eq_1,q0R8.eq_1,q0R9.eq_1,q0R11.eq_1,q0R10.eq_1,q0R12.eq_1,q0R13.eq_1,q0R14.eq_1,q0R15.eq_1,q0R16.eq_1,q0R17.eq_1,q0R19.eq_1,q0R18.eq_1,q0R20.eq_1,c_law11_VtCancels.eq_1,c_law11_VtCancels_L1.eq_1,q1,hw,a1,p1,ol,od,pl,q2,rl,actG_app,List.length_append])
end Go.Proofs.Ytkkcblfoaldckaa
