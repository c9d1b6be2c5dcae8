/- The document's parser: one code point, what is told; strings. Conditions: none. -/
import Derived.Test.YtkkcblfoaldckaaVr6
set_option linter.unusedVariables false
set_option linter.unusedSimpArgs false
set_option linter.unusedSectionVars false
set_option maxRecDepth 20000
set_option maxHeartbeats 4000000
namespace Go.Proofs.Ytkkcblfoaldckaa
open Go
variable (G : Nat → Option (List AV)) (g : Nat) (es : List (List AV)) (fl : Bool)
section
variable (H : List Int) (d : Int) (h1 : 2 ≤ H.length) (h2 : H.length ≤ 9000) (hd : H[1]? = some d)
include h1 h2 hd
theorem r2_csi (c : Int) (k0 : 64 ≤ c) (k1 : ¬ c = 127) (k2 : c < 160) (k3 : d = 91) (hr : ∀ x ∈ H, x < 1000) : aR G FT n_ref11_Parser_one [.ptr 0 0 0 0, .int .i32 c] [⟨1, 0, false, [[.own 2 0 0 H.length H.length]]⟩, ⟨6, g, true, es⟩, ⟨1, 0, true, rn H⟩] =
    some (.data false 6 (actG (csiT ((H ++ [c]).drop 2) c)) false, [⟨1, 0, false, [[.data false 1 [] true]]⟩, ⟨6, g, true, es⟩, ⟨1, 1, true, rn H ++ [[.int .i32 c]]⟩, ⟨1, 0, true, [[.int .i32 c]]⟩]) := by
  subst k3
  rw [run_ref11_Parser_one]
  have s := stringed_2 G g es false H 91 h1 (by omega) hd []
  have i91 : isStr 91 = false := rfl
  rw [i91] at s
  have q : ¬ (H.length : Int) = 0 := by omega
  have q' : ¬ H.length = 0 := by omega
  have j1 : ¬ c = 27 := by omega
  have j2 : ¬ c = 24 := by omega
  have j3 : ¬ c = 26 := by omega
  have j4 : ¬ 160 ≤ c := by omega
  have j5 : ¬ c < 32 := by omega
  have j6 : ¬ c < 64 := by omega
  have rl := rn_len H
  have rt := rn_take H
  have aq : (H.length + 1) * 4 ≤ 140737488355328 := by omega
  have l2 : (2 : Int) ≤ ((H.length + 1 : Nat) : Int) := by omega
  have l3 : (1 : Int) < ((H.length + 1 : Nat) : Int) := by omega
  have l4 : ¬ ((H.length + 1 : Nat) : Int) = 2 := by omega
  have l5 : 2 ≤ H.length + 1 := by omega
  have a1 : (rn H ++ [[AV.int .i32 c]])[1]? = some [.int .i32 91] := by rw [List.getElem?_append_left (by rw [rl]; omega), rn, List.getElem?_map, hd]; rfl
  have l6 : 2 + (H.length + 1 - 2) ≤ H.length + 1 := by omega
  have a2 : ((rn H ++ [[AV.int .i32 c]]).drop 2).take (H.length + 1 - 2) = rn ((H ++ [c]).drop 2) := by
    rw [List.take_of_length_le (by simp [rl]), show rn H ++ [[AV.int .i32 c]] = rn (H ++ [c]) from by simp [rn]]
    simp [rn, List.map_drop]
  have hl : ((H ++ [c]).drop 2).length = H.length - 1 := by rw [List.length_drop, List.length_append, List.length_singleton]; omega
  have he := fun b f => csi_P G c ((H ++ [c]).drop 2) b f (by omega) (by intro h; rw [h, List.length_nil] at hl; omega) (fun x hx => by
    rcases List.mem_append.1 (List.mem_of_mem_drop hx) with h | h
    · exact hr x h
    · simp at h; omega) (by rw [hl, List.getElem?_drop, List.getElem?_append_right (by omega), show 2 + (H.length - 1 - 1) - H.length = 0 from by omega]; rfl)
  (sym => simp [Qa,Qb,Qc,Qd,Qe,Qf,Qg,Qh,Qi,Qj,Qk,Ql,Qm,Qn,Qo,Qp,Qq,Qr,Qs,Qt,Qu,Qv,Qw,Qx,Qy,Qz,Q0,Q1,Q2,Q3,Q4,Q5,Q6,Q7,Q8,Q9,Xa,Xb,Xc,Xd,Xe,Xf,Xg,Xh,Xi,Xj,Xk,Xl,Xm,Xn,Xo,Xp,Xq,Xr,Xs,Xt,Xu,Xv,Xw,Xx,Xy,Xz,X0,X1,X2,X3,X4,X5,X6,X7,X8,X9,Ya,Yb,Yc,Yd,Ye,Yf,Yg,Yh,Yi,Yj,Yk,Yl,Ym,Yn,Yo,Yp,Yq,Yr,Ys,Yt,Yu,Yv,Yw,Yx,Yy,Yz,Y0,Y1,Y2,Y3,Y4,Y5,Y6,Y7,Y8,Y9,Za,Zb,Zc,Zd,Ze,Zf,Zg,Zh,Zi,Zj,Zk,Zl,Zm,Zn,Zo,Zp,Zq,Zr,Zs,Zt,Zu,Zv,Zw,Zx,Zy,Zz,Z0,Z1,Z2,Z3,Z4,Z5,Z6,Z7,Z8,Z9,Ja,Jb,Jc,Jd,Je,Jf,Jg,Jh,Ji,Jj,Jk,Jl,Jm,Jn,Jo,Jp,Jq,Jr,Js,Jt,Ju,Jv,Jw,Jx,Jy,Jz,J0,J1,J2,J3,J4,J5,J6,J7,J8,J9,Ka,Kb,Kc,Kd,Ke,Kf,Kg,Kh,Ki,Kj,Kk,Kl,Km,Kn,Ko,Kp,Kq,Kr,Ks,Kt,Ku,Kv,Kw,Kx,Ky,Kz,K0,K1,K2,K3,K4,K5,K6,K7,K8,K9,Ua,Ub,Uc,Ud,Ue,Uf,Ug,Uh,Ui,Uj,Uk,Ul,Um,Un,Uo,Up,Uq,Ur,Us,Ut,Uu,Uv,Uw,Ux,Uy,Uz,U0,U1,U2,U3,U4,U5,U6,U7,U8,U9,Va,Vb,Vc,Vd,Ve,Vf,Vg,Vh,Vi,Vj,Vk,Vl,Vm,Vn,Vo,Vp,Vq,Vr,Vs,Vt,Vu,Vv,Vw,Vx,Vy,Vz,V0,V1,V2,V3,V4,V5,V6,V7,V8,V9,Wa,Wb,Wc,Wd,We,Wf,Wg,Wh,Wi,Wj,Wk,Wl,Wm,Wn,Wo,Wp,Wq,Wr,Ws,Wt,Wu,Wv,Ww,Wx,Wy,Wz,W0,W1,W2,W3,W4,W5,W6,W7,W8,W9,Ha,Hb,Hc,Hd,He,Hf,Hg,Hh,Hi,Hj,Hk,Hl,Hm,Hn,Ho,Hp,Hq,Hr,Hs,Ht,Hu,Hv,Hw,Hx,Hy,Hz,H0,H1,H2,H3,H4,H5,H6,H7,H8,H9,Na,Nb,Nc,Nd,Ne,Nf,Ng,Nh,Ni,Nj,Nk,Nl,Nm,Nn,No,Np,Nq,Nr,Ns,Nt,Nu,Nv,Nw,Nx,Ny,Nz,N0,N1,N2,N3,N4,N5,N6,N7,N8,N9,Ba,Bb,Bc,Bd,Be,Bf,Bg,Bh,Bi,Bj,Bk,Bl,Bm,Bn,Bo,Bp,Bq,Br,Bs,Bt,Bu,Bv,Bw,Bx,By,Bz,BA,BB,BC,q9R0.eq_1,q9R1.eq_1,q9R2.eq_1,q9R3.eq_1,q9R4.eq_1,q9R5.eq_1,q9R6.eq_1,q9R7.eq_1,q9R8.eq_1,q9R9.eq_1,q9R10.eq_1,q9R11.eq_1,q9R12.eq_1,q9R13.eq_1,q9R14.eq_1,q9R15.eq_1,q9R16.eq_1,q9R17.eq_1,q9R18.eq_1,q9R19.eq_1,q9R20.eq_1,q9R21.eq_1,q9R22.eq_1,q9R23.eq_1,q9R24.eq_1,q9R25.eq_1,q9R26.eq_1,q9R27.eq_1,q9R28.eq_1,q9R29.eq_1,q9R30.eq_1,q9R31.eq_1,q9R32.eq_1,q9R33.eq_1,q9R34.eq_1,c_ref11_Parser_one.eq_1,k1,j1,j2,j3,j4,j5,j6,s,q,q',rl,rt,aq,l2,l3,l4,l5,l6,a1,a2,he])
theorem r2_esc (hs : isStr d = false) (c : Int) (k0 : 48 ≤ c) (k1 : ¬ c = 127) (k2 : c < 160) (k3 : ¬ d = 91) : aR G FT n_ref11_Parser_one [.ptr 0 0 0 0, .int .i32 c] [⟨1, 0, false, [[.own 2 0 0 H.length H.length]]⟩, ⟨6, g, true, es⟩, ⟨1, 0, true, rn H⟩] =
    some (.data false 6 (actG (escT ((H ++ [c]).drop 1) c)) false, [⟨1, 0, false, [[.data false 1 [] true]]⟩, ⟨6, g, true, es⟩, ⟨1, 1, true, rn H ++ [[.int .i32 c]]⟩, ⟨1, 0, true, [[.int .i32 c]]⟩]) := by
  rw [run_ref11_Parser_one]
  have s := stringed_2 G g es false H d h1 (by omega) hd []
  rw [hs] at s
  have q : ¬ (H.length : Int) = 0 := by omega
  have q' : ¬ H.length = 0 := by omega
  have j1 : ¬ c = 27 := by omega
  have j2 : ¬ c = 24 := by omega
  have j3 : ¬ c = 26 := by omega
  have j4 : ¬ 160 ≤ c := by omega
  have j5 : ¬ c < 32 := by omega
  have j6 : ¬ c < 48 := by omega
  have rl := rn_len H
  have rt := rn_take H
  have aq : (H.length + 1) * 4 ≤ 140737488355328 := by omega
  have l2 : (2 : Int) ≤ ((H.length + 1 : Nat) : Int) := by omega
  have l3 : (1 : Int) < ((H.length + 1 : Nat) : Int) := by omega
  have l4 : ¬ ((H.length + 1 : Nat) : Int) = 2 := by omega
  have l5 : 1 ≤ H.length + 1 := by omega
  have a1 : (rn H ++ [[AV.int .i32 c]])[1]? = some [.int .i32 d] := by rw [List.getElem?_append_left (by rw [rl]; omega), rn, List.getElem?_map, hd]; rfl
  have l6 : 1 + (H.length + 1 - 1) ≤ H.length + 1 := by omega
  have l7 : 1 + H.length ≤ H.length + 1 := by omega
  have a2 : ((rn H ++ [[AV.int .i32 c]]).drop 1).take H.length = rn ((H ++ [c]).drop 1) := by
    rw [List.take_of_length_le (by simp [rl]), show rn H ++ [[AV.int .i32 c]] = rn (H ++ [c]) from by simp [rn]]
    simp [rn, List.map_drop]
  have a3 : H.length + 1 - 1 = H.length := rfl
  have hl : ((H ++ [c]).drop 1).length = H.length := by simp
  have he := fun b f => resc_P G c ((H ++ [c]).drop 1) b f (by omega) (by intro h; rw [h, List.length_nil] at hl; omega) (by rw [hl, List.getElem?_drop, List.getElem?_append_right (by omega), show 1 + (H.length - 1) - H.length = 0 from by omega]; rfl)
  (sym => simp [Qa,Qb,Qc,Qd,Qe,Qf,Qg,Qh,Qi,Qj,Qk,Ql,Qm,Qn,Qo,Qp,Qq,Qr,Qs,Qt,Qu,Qv,Qw,Qx,Qy,Qz,Q0,Q1,Q2,Q3,Q4,Q5,Q6,Q7,Q8,Q9,Xa,Xb,Xc,Xd,Xe,Xf,Xg,Xh,Xi,Xj,Xk,Xl,Xm,Xn,Xo,Xp,Xq,Xr,Xs,Xt,Xu,Xv,Xw,Xx,Xy,Xz,X0,X1,X2,X3,X4,X5,X6,X7,X8,X9,Ya,Yb,Yc,Yd,Ye,Yf,Yg,Yh,Yi,Yj,Yk,Yl,Ym,Yn,Yo,Yp,Yq,Yr,Ys,Yt,Yu,Yv,Yw,Yx,Yy,Yz,Y0,Y1,Y2,Y3,Y4,Y5,Y6,Y7,Y8,Y9,Za,Zb,Zc,Zd,Ze,Zf,Zg,Zh,Zi,Zj,Zk,Zl,Zm,Zn,Zo,Zp,Zq,Zr,Zs,Zt,Zu,Zv,Zw,Zx,Zy,Zz,Z0,Z1,Z2,Z3,Z4,Z5,Z6,Z7,Z8,Z9,Ja,Jb,Jc,Jd,Je,Jf,Jg,Jh,Ji,Jj,Jk,Jl,Jm,Jn,Jo,Jp,Jq,Jr,Js,Jt,Ju,Jv,Jw,Jx,Jy,Jz,J0,J1,J2,J3,J4,J5,J6,J7,J8,J9,Ka,Kb,Kc,Kd,Ke,Kf,Kg,Kh,Ki,Kj,Kk,Kl,Km,Kn,Ko,Kp,Kq,Kr,Ks,Kt,Ku,Kv,Kw,Kx,Ky,Kz,K0,K1,K2,K3,K4,K5,K6,K7,K8,K9,Ua,Ub,Uc,Ud,Ue,Uf,Ug,Uh,Ui,Uj,Uk,Ul,Um,Un,Uo,Up,Uq,Ur,Us,Ut,Uu,Uv,Uw,Ux,Uy,Uz,U0,U1,U2,U3,U4,U5,U6,U7,U8,U9,Va,Vb,Vc,Vd,Ve,Vf,Vg,Vh,Vi,Vj,Vk,Vl,Vm,Vn,Vo,Vp,Vq,Vr,Vs,Vt,Vu,Vv,Vw,Vx,Vy,Vz,V0,V1,V2,V3,V4,V5,V6,V7,V8,V9,Wa,Wb,Wc,Wd,We,Wf,Wg,Wh,Wi,Wj,Wk,Wl,Wm,Wn,Wo,Wp,Wq,Wr,Ws,Wt,Wu,Wv,Ww,Wx,Wy,Wz,W0,W1,W2,W3,W4,W5,W6,W7,W8,W9,Ha,Hb,Hc,Hd,He,Hf,Hg,Hh,Hi,Hj,Hk,Hl,Hm,Hn,Ho,Hp,Hq,Hr,Hs,Ht,Hu,Hv,Hw,Hx,Hy,Hz,H0,H1,H2,H3,H4,H5,H6,H7,H8,H9,Na,Nb,Nc,Nd,Ne,Nf,Ng,Nh,Ni,Nj,Nk,Nl,Nm,Nn,No,Np,Nq,Nr,Ns,Nt,Nu,Nv,Nw,Nx,Ny,Nz,N0,N1,N2,N3,N4,N5,N6,N7,N8,N9,Ba,Bb,Bc,Bd,Be,Bf,Bg,Bh,Bi,Bj,Bk,Bl,Bm,Bn,Bo,Bp,Bq,Br,Bs,Bt,Bu,Bv,Bw,Bx,By,Bz,BA,BB,BC,q9R0.eq_1,q9R1.eq_1,q9R2.eq_1,q9R3.eq_1,q9R4.eq_1,q9R5.eq_1,q9R6.eq_1,q9R7.eq_1,q9R8.eq_1,q9R9.eq_1,q9R10.eq_1,q9R11.eq_1,q9R12.eq_1,q9R13.eq_1,q9R14.eq_1,q9R15.eq_1,q9R16.eq_1,q9R17.eq_1,q9R18.eq_1,q9R19.eq_1,q9R20.eq_1,q9R21.eq_1,q9R22.eq_1,q9R23.eq_1,q9R24.eq_1,q9R25.eq_1,q9R26.eq_1,q9R27.eq_1,q9R28.eq_1,q9R29.eq_1,q9R30.eq_1,q9R31.eq_1,q9R32.eq_1,q9R33.eq_1,q9R34.eq_1,c_ref11_Parser_one.eq_1,k1,k3,j1,j2,j3,j4,j5,j6,s,q,q',rl,rt,aq,l2,l3,l4,l5,l6,l7,a1,a2,a3,he])
-- strings
theorem r2s_7n (hs : isStr d = true) (hn : ¬ d = 93) : aR G FT n_ref11_Parser_one [.ptr 0 0 0 0, .int .i32 7] [⟨1, 0, false, [[.own 2 0 0 H.length H.length]]⟩, ⟨6, g, true, es⟩, ⟨1, 0, true, rn H⟩] =
    some (.data false 6 [] true, [⟨1, 0, false, [[.data false 1 [] true]]⟩, ⟨6, g, true, es⟩, ⟨1, 0, true, rn H⟩]) := by
  rw [run_ref11_Parser_one]
  have s := stringed_2 G g es false H d h1 (by omega) hd []
  rw [hs] at s
  have ht := told_no G g es H d h1 (by omega) hd hn
  have q : ¬ (H.length : Int) = 0 := by omega
  have q' : ¬ H.length = 0 := by omega
  (sym => simp [Qa,Qb,Qc,Qd,Qe,Qf,Qg,Qh,Qi,Qj,Qk,Ql,Qm,Qn,Qo,Qp,Qq,Qr,Qs,Qt,Qu,Qv,Qw,Qx,Qy,Qz,Q0,Q1,Q2,Q3,Q4,Q5,Q6,Q7,Q8,Q9,Xa,Xb,Xc,Xd,Xe,Xf,Xg,Xh,Xi,Xj,Xk,Xl,Xm,Xn,Xo,Xp,Xq,Xr,Xs,Xt,Xu,Xv,Xw,Xx,Xy,Xz,X0,X1,X2,X3,X4,X5,X6,X7,X8,X9,Ya,Yb,Yc,Yd,Ye,Yf,Yg,Yh,Yi,Yj,Yk,Yl,Ym,Yn,Yo,Yp,Yq,Yr,Ys,Yt,Yu,Yv,Yw,Yx,Yy,Yz,Y0,Y1,Y2,Y3,Y4,Y5,Y6,Y7,Y8,Y9,Za,Zb,Zc,Zd,Ze,Zf,Zg,Zh,Zi,Zj,Zk,Zl,Zm,Zn,Zo,Zp,Zq,Zr,Zs,Zt,Zu,Zv,Zw,Zx,Zy,Zz,Z0,Z1,Z2,Z3,Z4,Z5,Z6,Z7,Z8,Z9,Ja,Jb,Jc,Jd,Je,Jf,Jg,Jh,Ji,Jj,Jk,Jl,Jm,Jn,Jo,Jp,Jq,Jr,Js,Jt,Ju,Jv,Jw,Jx,Jy,Jz,J0,J1,J2,J3,J4,J5,J6,J7,J8,J9,Ka,Kb,Kc,Kd,Ke,Kf,Kg,Kh,Ki,Kj,Kk,Kl,Km,Kn,Ko,Kp,Kq,Kr,Ks,Kt,Ku,Kv,Kw,Kx,Ky,Kz,K0,K1,K2,K3,K4,K5,K6,K7,K8,K9,Ua,Ub,Uc,Ud,Ue,Uf,Ug,Uh,Ui,Uj,Uk,Ul,Um,Un,Uo,Up,Uq,Ur,Us,Ut,Uu,Uv,Uw,Ux,Uy,Uz,U0,U1,U2,U3,U4,U5,U6,U7,U8,U9,Va,Vb,Vc,Vd,Ve,Vf,Vg,Vh,Vi,Vj,Vk,Vl,Vm,Vn,Vo,Vp,Vq,Vr,Vs,Vt,Vu,Vv,Vw,Vx,Vy,Vz,V0,V1,V2,V3,V4,V5,V6,V7,V8,V9,Wa,Wb,Wc,Wd,We,Wf,Wg,Wh,Wi,Wj,Wk,Wl,Wm,Wn,Wo,Wp,Wq,Wr,Ws,Wt,Wu,Wv,Ww,Wx,Wy,Wz,W0,W1,W2,W3,W4,W5,W6,W7,W8,W9,Ha,Hb,Hc,Hd,He,Hf,Hg,Hh,Hi,Hj,Hk,Hl,Hm,Hn,Ho,Hp,Hq,Hr,Hs,Ht,Hu,Hv,Hw,Hx,Hy,Hz,H0,H1,H2,H3,H4,H5,H6,H7,H8,H9,Na,Nb,Nc,Nd,Ne,Nf,Ng,Nh,Ni,Nj,Nk,Nl,Nm,Nn,No,Np,Nq,Nr,Ns,Nt,Nu,Nv,Nw,Nx,Ny,Nz,N0,N1,N2,N3,N4,N5,N6,N7,N8,N9,Ba,Bb,Bc,Bd,Be,Bf,Bg,Bh,Bi,Bj,Bk,Bl,Bm,Bn,Bo,Bp,Bq,Br,Bs,Bt,Bu,Bv,Bw,Bx,By,Bz,BA,BB,BC,q9R0.eq_1,q9R1.eq_1,q9R2.eq_1,q9R3.eq_1,q9R4.eq_1,q9R5.eq_1,q9R6.eq_1,q9R7.eq_1,q9R8.eq_1,q9R9.eq_1,q9R10.eq_1,q9R11.eq_1,q9R12.eq_1,q9R13.eq_1,q9R14.eq_1,q9R15.eq_1,q9R16.eq_1,q9R17.eq_1,q9R18.eq_1,q9R19.eq_1,q9R20.eq_1,q9R21.eq_1,q9R22.eq_1,q9R23.eq_1,q9R24.eq_1,q9R25.eq_1,q9R26.eq_1,q9R27.eq_1,q9R28.eq_1,q9R29.eq_1,q9R30.eq_1,q9R31.eq_1,q9R32.eq_1,q9R33.eq_1,q9R34.eq_1,c_ref11_Parser_one.eq_1,s,q,q',ht])
theorem r2s_add (hs : isStr d = true) (c : Int) (k0 : 32 ≤ c) (k1 : ¬ c = 127) : aR G FT n_ref11_Parser_one [.ptr 0 0 0 0, .int .i32 c] [⟨1, 0, false, [[.own 2 0 0 H.length H.length]]⟩, ⟨6, g, true, es⟩, ⟨1, 0, true, rn H⟩] =
    some (.data false 6 [] true, [⟨1, 0, false, [[.own 2 1 0 (H.length + 1) (H.length + 1)]]⟩, ⟨6, g, true, es⟩, ⟨1, 1, true, rn H ++ [[.int .i32 c]]⟩, ⟨1, 0, true, [[.int .i32 c]]⟩]) := by
  rw [run_ref11_Parser_one]
  have s := stringed_2 G g es false H d h1 (by omega) hd []
  rw [hs] at s
  have q : ¬ (H.length : Int) = 0 := by omega
  have q' : ¬ H.length = 0 := by omega
  have j1 : ¬ c = 27 := by omega
  have j2 : ¬ c = 24 := by omega
  have j3 : ¬ c = 26 := by omega
  have j4 : ¬ c = 7 := by omega
  have rl := rn_len H
  have rt := rn_take H
  have aq : (H.length + 1) * 4 ≤ 140737488355328 := by omega
  (sym => simp [Qa,Qb,Qc,Qd,Qe,Qf,Qg,Qh,Qi,Qj,Qk,Ql,Qm,Qn,Qo,Qp,Qq,Qr,Qs,Qt,Qu,Qv,Qw,Qx,Qy,Qz,Q0,Q1,Q2,Q3,Q4,Q5,Q6,Q7,Q8,Q9,Xa,Xb,Xc,Xd,Xe,Xf,Xg,Xh,Xi,Xj,Xk,Xl,Xm,Xn,Xo,Xp,Xq,Xr,Xs,Xt,Xu,Xv,Xw,Xx,Xy,Xz,X0,X1,X2,X3,X4,X5,X6,X7,X8,X9,Ya,Yb,Yc,Yd,Ye,Yf,Yg,Yh,Yi,Yj,Yk,Yl,Ym,Yn,Yo,Yp,Yq,Yr,Ys,Yt,Yu,Yv,Yw,Yx,Yy,Yz,Y0,Y1,Y2,Y3,Y4,Y5,Y6,Y7,Y8,Y9,Za,Zb,Zc,Zd,Ze,Zf,Zg,Zh,Zi,Zj,Zk,Zl,Zm,Zn,Zo,Zp,Zq,Zr,Zs,Zt,Zu,Zv,Zw,Zx,Zy,Zz,Z0,Z1,Z2,Z3,Z4,Z5,Z6,Z7,Z8,Z9,Ja,Jb,Jc,Jd,Je,Jf,Jg,Jh,Ji,Jj,Jk,Jl,Jm,Jn,Jo,Jp,Jq,Jr,Js,Jt,Ju,Jv,Jw,Jx,Jy,Jz,J0,J1,J2,J3,J4,J5,J6,J7,J8,J9,Ka,Kb,Kc,Kd,Ke,Kf,Kg,Kh,Ki,Kj,Kk,Kl,Km,Kn,Ko,Kp,Kq,Kr,Ks,Kt,Ku,Kv,Kw,Kx,Ky,Kz,K0,K1,K2,K3,K4,K5,K6,K7,K8,K9,Ua,Ub,Uc,Ud,Ue,Uf,Ug,Uh,Ui,Uj,Uk,Ul,Um,Un,Uo,Up,Uq,Ur,Us,Ut,Uu,Uv,Uw,Ux,Uy,Uz,U0,U1,U2,U3,U4,U5,U6,U7,U8,U9,Va,Vb,Vc,Vd,Ve,Vf,Vg,Vh,Vi,Vj,Vk,Vl,Vm,Vn,Vo,Vp,Vq,Vr,Vs,Vt,Vu,Vv,Vw,Vx,Vy,Vz,V0,V1,V2,V3,V4,V5,V6,V7,V8,V9,Wa,Wb,Wc,Wd,We,Wf,Wg,Wh,Wi,Wj,Wk,Wl,Wm,Wn,Wo,Wp,Wq,Wr,Ws,Wt,Wu,Wv,Ww,Wx,Wy,Wz,W0,W1,W2,W3,W4,W5,W6,W7,W8,W9,Ha,Hb,Hc,Hd,He,Hf,Hg,Hh,Hi,Hj,Hk,Hl,Hm,Hn,Ho,Hp,Hq,Hr,Hs,Ht,Hu,Hv,Hw,Hx,Hy,Hz,H0,H1,H2,H3,H4,H5,H6,H7,H8,H9,Na,Nb,Nc,Nd,Ne,Nf,Ng,Nh,Ni,Nj,Nk,Nl,Nm,Nn,No,Np,Nq,Nr,Ns,Nt,Nu,Nv,Nw,Nx,Ny,Nz,N0,N1,N2,N3,N4,N5,N6,N7,N8,N9,Ba,Bb,Bc,Bd,Be,Bf,Bg,Bh,Bi,Bj,Bk,Bl,Bm,Bn,Bo,Bp,Bq,Br,Bs,Bt,Bu,Bv,Bw,Bx,By,Bz,BA,BB,BC,q9R0.eq_1,q9R1.eq_1,q9R2.eq_1,q9R3.eq_1,q9R4.eq_1,q9R5.eq_1,q9R6.eq_1,q9R7.eq_1,q9R8.eq_1,q9R9.eq_1,q9R10.eq_1,q9R11.eq_1,q9R12.eq_1,q9R13.eq_1,q9R14.eq_1,q9R15.eq_1,q9R16.eq_1,q9R17.eq_1,q9R18.eq_1,q9R19.eq_1,q9R20.eq_1,q9R21.eq_1,q9R22.eq_1,q9R23.eq_1,q9R24.eq_1,q9R25.eq_1,q9R26.eq_1,q9R27.eq_1,q9R28.eq_1,q9R29.eq_1,q9R30.eq_1,q9R31.eq_1,q9R32.eq_1,q9R33.eq_1,q9R34.eq_1,c_ref11_Parser_one.eq_1,k0,k1,j1,j2,j3,j4,s,q,q',rl,rt,aq])
theorem r2s_no (hs : isStr d = true) (c : Int) (k1 : ¬ c = 27) (k2 : ¬ c = 24) (k3 : ¬ c = 26) (k4 : ¬ c = 7) (k5 : c < 32 ∨ c = 127) : aR G FT n_ref11_Parser_one [.ptr 0 0 0 0, .int .i32 c] [⟨1, 0, false, [[.own 2 0 0 H.length H.length]]⟩, ⟨6, g, true, es⟩, ⟨1, 0, true, rn H⟩] =
    some (.data false 6 [] true, [⟨1, 0, false, [[.own 2 0 0 H.length H.length]]⟩, ⟨6, g, true, es⟩, ⟨1, 0, true, rn H⟩]) := by
  rw [run_ref11_Parser_one]
  have s := stringed_2 G g es false H d h1 (by omega) hd []
  rw [hs] at s
  have q : ¬ (H.length : Int) = 0 := by omega
  have q' : ¬ H.length = 0 := by omega
  rcases k5 with k5 | rfl
  · have k6 : ¬ 32 ≤ c := by omega
    (sym => simp [Qa,Qb,Qc,Qd,Qe,Qf,Qg,Qh,Qi,Qj,Qk,Ql,Qm,Qn,Qo,Qp,Qq,Qr,Qs,Qt,Qu,Qv,Qw,Qx,Qy,Qz,Q0,Q1,Q2,Q3,Q4,Q5,Q6,Q7,Q8,Q9,Xa,Xb,Xc,Xd,Xe,Xf,Xg,Xh,Xi,Xj,Xk,Xl,Xm,Xn,Xo,Xp,Xq,Xr,Xs,Xt,Xu,Xv,Xw,Xx,Xy,Xz,X0,X1,X2,X3,X4,X5,X6,X7,X8,X9,Ya,Yb,Yc,Yd,Ye,Yf,Yg,Yh,Yi,Yj,Yk,Yl,Ym,Yn,Yo,Yp,Yq,Yr,Ys,Yt,Yu,Yv,Yw,Yx,Yy,Yz,Y0,Y1,Y2,Y3,Y4,Y5,Y6,Y7,Y8,Y9,Za,Zb,Zc,Zd,Ze,Zf,Zg,Zh,Zi,Zj,Zk,Zl,Zm,Zn,Zo,Zp,Zq,Zr,Zs,Zt,Zu,Zv,Zw,Zx,Zy,Zz,Z0,Z1,Z2,Z3,Z4,Z5,Z6,Z7,Z8,Z9,Ja,Jb,Jc,Jd,Je,Jf,Jg,Jh,Ji,Jj,Jk,Jl,Jm,Jn,Jo,Jp,Jq,Jr,Js,Jt,Ju,Jv,Jw,Jx,Jy,Jz,J0,J1,J2,J3,J4,J5,J6,J7,J8,J9,Ka,Kb,Kc,Kd,Ke,Kf,Kg,Kh,Ki,Kj,Kk,Kl,Km,Kn,Ko,Kp,Kq,Kr,Ks,Kt,Ku,Kv,Kw,Kx,Ky,Kz,K0,K1,K2,K3,K4,K5,K6,K7,K8,K9,Ua,Ub,Uc,Ud,Ue,Uf,Ug,Uh,Ui,Uj,Uk,Ul,Um,Un,Uo,Up,Uq,Ur,Us,Ut,Uu,Uv,Uw,Ux,Uy,Uz,U0,U1,U2,U3,U4,U5,U6,U7,U8,U9,Va,Vb,Vc,Vd,Ve,Vf,Vg,Vh,Vi,Vj,Vk,Vl,Vm,Vn,Vo,Vp,Vq,Vr,Vs,Vt,Vu,Vv,Vw,Vx,Vy,Vz,V0,V1,V2,V3,V4,V5,V6,V7,V8,V9,Wa,Wb,Wc,Wd,We,Wf,Wg,Wh,Wi,Wj,Wk,Wl,Wm,Wn,Wo,Wp,Wq,Wr,Ws,Wt,Wu,Wv,Ww,Wx,Wy,Wz,W0,W1,W2,W3,W4,W5,W6,W7,W8,W9,Ha,Hb,Hc,Hd,He,Hf,Hg,Hh,Hi,Hj,Hk,Hl,Hm,Hn,Ho,Hp,Hq,Hr,Hs,Ht,Hu,Hv,Hw,Hx,Hy,Hz,H0,H1,H2,H3,H4,H5,H6,H7,H8,H9,Na,Nb,Nc,Nd,Ne,Nf,Ng,Nh,Ni,Nj,Nk,Nl,Nm,Nn,No,Np,Nq,Nr,Ns,Nt,Nu,Nv,Nw,Nx,Ny,Nz,N0,N1,N2,N3,N4,N5,N6,N7,N8,N9,Ba,Bb,Bc,Bd,Be,Bf,Bg,Bh,Bi,Bj,Bk,Bl,Bm,Bn,Bo,Bp,Bq,Br,Bs,Bt,Bu,Bv,Bw,Bx,By,Bz,BA,BB,BC,q9R0.eq_1,q9R1.eq_1,q9R2.eq_1,q9R3.eq_1,q9R4.eq_1,q9R5.eq_1,q9R6.eq_1,q9R7.eq_1,q9R8.eq_1,q9R9.eq_1,q9R10.eq_1,q9R11.eq_1,q9R12.eq_1,q9R13.eq_1,q9R14.eq_1,q9R15.eq_1,q9R16.eq_1,q9R17.eq_1,q9R18.eq_1,q9R19.eq_1,q9R20.eq_1,q9R21.eq_1,q9R22.eq_1,q9R23.eq_1,q9R24.eq_1,q9R25.eq_1,q9R26.eq_1,q9R27.eq_1,q9R28.eq_1,q9R29.eq_1,q9R30.eq_1,q9R31.eq_1,q9R32.eq_1,q9R33.eq_1,q9R34.eq_1,c_ref11_Parser_one.eq_1,k1,k2,k3,k4,k6,s,q,q'])
  · (sym => simp [Qa,Qb,Qc,Qd,Qe,Qf,Qg,Qh,Qi,Qj,Qk,Ql,Qm,Qn,Qo,Qp,Qq,Qr,Qs,Qt,Qu,Qv,Qw,Qx,Qy,Qz,Q0,Q1,Q2,Q3,Q4,Q5,Q6,Q7,Q8,Q9,Xa,Xb,Xc,Xd,Xe,Xf,Xg,Xh,Xi,Xj,Xk,Xl,Xm,Xn,Xo,Xp,Xq,Xr,Xs,Xt,Xu,Xv,Xw,Xx,Xy,Xz,X0,X1,X2,X3,X4,X5,X6,X7,X8,X9,Ya,Yb,Yc,Yd,Ye,Yf,Yg,Yh,Yi,Yj,Yk,Yl,Ym,Yn,Yo,Yp,Yq,Yr,Ys,Yt,Yu,Yv,Yw,Yx,Yy,Yz,Y0,Y1,Y2,Y3,Y4,Y5,Y6,Y7,Y8,Y9,Za,Zb,Zc,Zd,Ze,Zf,Zg,Zh,Zi,Zj,Zk,Zl,Zm,Zn,Zo,Zp,Zq,Zr,Zs,Zt,Zu,Zv,Zw,Zx,Zy,Zz,Z0,Z1,Z2,Z3,Z4,Z5,Z6,Z7,Z8,Z9,Ja,Jb,Jc,Jd,Je,Jf,Jg,Jh,Ji,Jj,Jk,Jl,Jm,Jn,Jo,Jp,Jq,Jr,Js,Jt,Ju,Jv,Jw,Jx,Jy,Jz,J0,J1,J2,J3,J4,J5,J6,J7,J8,J9,Ka,Kb,Kc,Kd,Ke,Kf,Kg,Kh,Ki,Kj,Kk,Kl,Km,Kn,Ko,Kp,Kq,Kr,Ks,Kt,Ku,Kv,Kw,Kx,Ky,Kz,K0,K1,K2,K3,K4,K5,K6,K7,K8,K9,Ua,Ub,Uc,Ud,Ue,Uf,Ug,Uh,Ui,Uj,Uk,Ul,Um,Un,Uo,Up,Uq,Ur,Us,Ut,Uu,Uv,Uw,Ux,Uy,Uz,U0,U1,U2,U3,U4,U5,U6,U7,U8,U9,Va,Vb,Vc,Vd,Ve,Vf,Vg,Vh,Vi,Vj,Vk,Vl,Vm,Vn,Vo,Vp,Vq,Vr,Vs,Vt,Vu,Vv,Vw,Vx,Vy,Vz,V0,V1,V2,V3,V4,V5,V6,V7,V8,V9,Wa,Wb,Wc,Wd,We,Wf,Wg,Wh,Wi,Wj,Wk,Wl,Wm,Wn,Wo,Wp,Wq,Wr,Ws,Wt,Wu,Wv,Ww,Wx,Wy,Wz,W0,W1,W2,W3,W4,W5,W6,W7,W8,W9,Ha,Hb,Hc,Hd,He,Hf,Hg,Hh,Hi,Hj,Hk,Hl,Hm,Hn,Ho,Hp,Hq,Hr,Hs,Ht,Hu,Hv,Hw,Hx,Hy,Hz,H0,H1,H2,H3,H4,H5,H6,H7,H8,H9,Na,Nb,Nc,Nd,Ne,Nf,Ng,Nh,Ni,Nj,Nk,Nl,Nm,Nn,No,Np,Nq,Nr,Ns,Nt,Nu,Nv,Nw,Nx,Ny,Nz,N0,N1,N2,N3,N4,N5,N6,N7,N8,N9,Ba,Bb,Bc,Bd,Be,Bf,Bg,Bh,Bi,Bj,Bk,Bl,Bm,Bn,Bo,Bp,Bq,Br,Bs,Bt,Bu,Bv,Bw,Bx,By,Bz,BA,BB,BC,q9R0.eq_1,q9R1.eq_1,q9R2.eq_1,q9R3.eq_1,q9R4.eq_1,q9R5.eq_1,q9R6.eq_1,q9R7.eq_1,q9R8.eq_1,q9R9.eq_1,q9R10.eq_1,q9R11.eq_1,q9R12.eq_1,q9R13.eq_1,q9R14.eq_1,q9R15.eq_1,q9R16.eq_1,q9R17.eq_1,q9R18.eq_1,q9R19.eq_1,q9R20.eq_1,q9R21.eq_1,q9R22.eq_1,q9R23.eq_1,q9R24.eq_1,q9R25.eq_1,q9R26.eq_1,q9R27.eq_1,q9R28.eq_1,q9R29.eq_1,q9R30.eq_1,q9R31.eq_1,q9R32.eq_1,q9R33.eq_1,q9R34.eq_1,c_ref11_Parser_one.eq_1,s,q,q'])
end
theorem r2s_7y (H : List Int) (h1 : 2 ≤ H.length) (h2 : H.length ≤ 9000) (hd : H[1]? = some 93) : aR G FT n_ref11_Parser_one [.ptr 0 0 0 0, .int .i32 7] [⟨1, 0, false, [[.own 2 0 0 H.length H.length]]⟩, ⟨6, g, true, es⟩, ⟨1, 0, true, rn H⟩] =
    some (.own 4 0 0 1 1, [⟨1, 0, false, [[.data false 1 [] true]]⟩, ⟨6, g, true, es⟩, ⟨1, 0, true, rn H⟩, ⟨1, 0, true, rn (heldT H)⟩,
      ⟨6, 0, false, [[.int .i64 5, .int .i32 0, .int .i32 0, .str ⟨#[]⟩, .data false 1 [] true, .own 3 0 0 (min H.length 66 - 2) (min H.length 66 - 2)]]⟩]) := by
  rw [run_ref11_Parser_one]
  have s := stringed_2 G g es false H 93 h1 (by omega) hd []
  have i93 : isStr 93 = true := rfl
  rw [i93] at s
  have ht := told_yes G g es H h1 (by omega) hd
  have q : ¬ (H.length : Int) = 0 := by omega
  have q' : ¬ H.length = 0 := by omega
  (sym => simp [Qa,Qb,Qc,Qd,Qe,Qf,Qg,Qh,Qi,Qj,Qk,Ql,Qm,Qn,Qo,Qp,Qq,Qr,Qs,Qt,Qu,Qv,Qw,Qx,Qy,Qz,Q0,Q1,Q2,Q3,Q4,Q5,Q6,Q7,Q8,Q9,Xa,Xb,Xc,Xd,Xe,Xf,Xg,Xh,Xi,Xj,Xk,Xl,Xm,Xn,Xo,Xp,Xq,Xr,Xs,Xt,Xu,Xv,Xw,Xx,Xy,Xz,X0,X1,X2,X3,X4,X5,X6,X7,X8,X9,Ya,Yb,Yc,Yd,Ye,Yf,Yg,Yh,Yi,Yj,Yk,Yl,Ym,Yn,Yo,Yp,Yq,Yr,Ys,Yt,Yu,Yv,Yw,Yx,Yy,Yz,Y0,Y1,Y2,Y3,Y4,Y5,Y6,Y7,Y8,Y9,Za,Zb,Zc,Zd,Ze,Zf,Zg,Zh,Zi,Zj,Zk,Zl,Zm,Zn,Zo,Zp,Zq,Zr,Zs,Zt,Zu,Zv,Zw,Zx,Zy,Zz,Z0,Z1,Z2,Z3,Z4,Z5,Z6,Z7,Z8,Z9,Ja,Jb,Jc,Jd,Je,Jf,Jg,Jh,Ji,Jj,Jk,Jl,Jm,Jn,Jo,Jp,Jq,Jr,Js,Jt,Ju,Jv,Jw,Jx,Jy,Jz,J0,J1,J2,J3,J4,J5,J6,J7,J8,J9,Ka,Kb,Kc,Kd,Ke,Kf,Kg,Kh,Ki,Kj,Kk,Kl,Km,Kn,Ko,Kp,Kq,Kr,Ks,Kt,Ku,Kv,Kw,Kx,Ky,Kz,K0,K1,K2,K3,K4,K5,K6,K7,K8,K9,Ua,Ub,Uc,Ud,Ue,Uf,Ug,Uh,Ui,Uj,Uk,Ul,Um,Un,Uo,Up,Uq,Ur,Us,Ut,Uu,Uv,Uw,Ux,Uy,Uz,U0,U1,U2,U3,U4,U5,U6,U7,U8,U9,Va,Vb,Vc,Vd,Ve,Vf,Vg,Vh,Vi,Vj,Vk,Vl,Vm,Vn,Vo,Vp,Vq,Vr,Vs,Vt,Vu,Vv,Vw,Vx,Vy,Vz,V0,V1,V2,V3,V4,V5,V6,V7,V8,V9,Wa,Wb,Wc,Wd,We,Wf,Wg,Wh,Wi,Wj,Wk,Wl,Wm,Wn,Wo,Wp,Wq,Wr,Ws,Wt,Wu,Wv,Ww,Wx,Wy,Wz,W0,W1,W2,W3,W4,W5,W6,W7,W8,W9,Ha,Hb,Hc,Hd,He,Hf,Hg,Hh,Hi,Hj,Hk,Hl,Hm,Hn,Ho,Hp,Hq,Hr,Hs,Ht,Hu,Hv,Hw,Hx,Hy,Hz,H0,H1,H2,H3,H4,H5,H6,H7,H8,H9,Na,Nb,Nc,Nd,Ne,Nf,Ng,Nh,Ni,Nj,Nk,Nl,Nm,Nn,No,Np,Nq,Nr,Ns,Nt,Nu,Nv,Nw,Nx,Ny,Nz,N0,N1,N2,N3,N4,N5,N6,N7,N8,N9,Ba,Bb,Bc,Bd,Be,Bf,Bg,Bh,Bi,Bj,Bk,Bl,Bm,Bn,Bo,Bp,Bq,Br,Bs,Bt,Bu,Bv,Bw,Bx,By,Bz,BA,BB,BC,q9R0.eq_1,q9R1.eq_1,q9R2.eq_1,q9R3.eq_1,q9R4.eq_1,q9R5.eq_1,q9R6.eq_1,q9R7.eq_1,q9R8.eq_1,q9R9.eq_1,q9R10.eq_1,q9R11.eq_1,q9R12.eq_1,q9R13.eq_1,q9R14.eq_1,q9R15.eq_1,q9R16.eq_1,q9R17.eq_1,q9R18.eq_1,q9R19.eq_1,q9R20.eq_1,q9R21.eq_1,q9R22.eq_1,q9R23.eq_1,q9R24.eq_1,q9R25.eq_1,q9R26.eq_1,q9R27.eq_1,q9R28.eq_1,q9R29.eq_1,q9R30.eq_1,q9R31.eq_1,q9R32.eq_1,q9R33.eq_1,q9R34.eq_1,c_ref11_Parser_one.eq_1,s,q,q',ht])
end Go.Proofs.Ytkkcblfoaldckaa
