/- The document's parser: Parse. Conditions: none. -/
import Derived.Test.YtkkcblfoaldckaaVrA
set_option linter.unusedVariables false
set_option linter.unusedSimpArgs false
set_option linter.unusedSectionVars false
set_option maxRecDepth 20000
set_option maxHeartbeats 4000000
namespace Go.Proofs.Ytkkcblfoaldckaa
open Go
variable (G : Nat → Option (List AV)) (g : Nat) (es : List (List AV)) (fl : Bool)
def rPut (H : List Int) (c : Int) : List Act' × List Int :=
  if 128 ≤ pointT c ∧ pointT c < 160 then (rTold H ++ (rOne [27] (pointT c - 64)).1, (rOne [27] (pointT c - 64)).2) else rOne H (pointT c)
theorem rone_second (c : Int) (h1 : 64 ≤ c) (h2 : c < 96) : (rOne [27] c = ([], [27, c]) ∧ (c = 91 ∨ isStr c = true)) ∨ (rOne [27] c = ([escA c ⟨#[]⟩], []) ∧ ¬ c = 91 ∧ isStr c = false) := by
  unfold rOne
  rw [if_neg (by omega), if_neg (by simp), if_neg (by omega)]
  simp only [List.getElem?_cons_succ, List.getElem?_nil]
  rw [if_neg (by omega), if_neg (by omega)]
  by_cases k : c = 91 ∨ isStr c = true
  · rw [if_pos (by rcases k with k | k; exact .inr (.inl k); exact .inr (.inr k))]
    exact .inl ⟨rfl, k⟩
  · rw [if_neg (by rintro (h | h | h); omega; exact k (.inl h); exact k (.inr h))]
    exact .inr ⟨rfl, fun h => k (.inl h), by simpa using fun h => k (.inr h)⟩
theorem rput_ok (H : List Int) (ok : rOk H) (c : Int) : ∃ b hy, aR G FT n_ref11_Parser_Put [.ptr 0 0 0 0, .int .i32 c] (rHeap g es fl H) = some (.data false 6 (actG (rPut H c).1) b, hy) ∧ RSt g es hy (rPut H c).2 := by
  unfold rPut
  by_cases hc : 128 ≤ pointT c ∧ pointT c < 160
  · rw [if_pos hc]
    obtain ⟨h1, h2⟩ := hc
    have ec : pointT c = c := by
      unfold pointT at h1 h2 ⊢
      split
      · rename_i k; rw [if_pos k] at h2; omega
      · rfl
    rw [ec] at h1 h2 ⊢
    have quiet : ∀ (R : List ARow), rTold H = [] → aR G FT n_ref11_Parser_one [.ptr 0 0 0 0, .int .i32 27] (rHeap g es fl H) = some (.data false 6 [] true, ⟨1, 0, false, [[.own (R.length + 1 + 1) 0 0 1 1]]⟩ :: ⟨6, g, true, es⟩ :: (R ++ [⟨1, 0, true, [[.int .i32 27]]⟩])) →
        ∃ b hy, aR G FT n_ref11_Parser_Put [.ptr 0 0 0 0, .int .i32 c] (rHeap g es fl H) = some (.data false 6 (actG (rTold H ++ (rOne [27] (c - 64)).1)) b, hy) ∧ RSt g es hy (rOne [27] (c - 64)).2 := by
      intro R he0 he1
      rw [he0]
      rcases rone_second (c - 64) (by omega) (by omega) with ⟨e, k⟩ | ⟨e, k, k'⟩
      · rw [e]
        refine ⟨_, _, rput_q G _ c h1 h2 R _ _ _ _ _ _ _ he1 (rk_q G g es R (c - 64) (by omega) (by omega) k), rst_cons g es (by simp) (R.length + 1 + 1) 1 _ rfl (by omega) ?_⟩
        simp [rn]
      · rw [e]
        exact ⟨_, _, rput_t G _ c h1 h2 _ rfl R _ _ _ _ _ _ _ he1 (rk_esc G g es R (c - 64) (by omega) (by omega) k k'), _, _, rfl⟩
    by_cases h0 : H = []
    · subst h0
      exact quiet [] rfl (r0_27 G g es fl)
    have two : ∀ H : List Int, H ≠ [] → (H[1]? = none ∧ ∃ x, H = [x]) ∨ ∃ d, H[1]? = some d ∧ 2 ≤ H.length := fun H h0 => by
      match H with
      | [] => exact absurd rfl h0
      | [x] => exact .inl ⟨rfl, x, rfl⟩
      | x :: y :: r => exact .inr ⟨y, rfl, by simp⟩
    rcases two H h0 with ⟨_, x, rfl⟩ | ⟨d, hd, hl2⟩
    · exact quiet [_] rfl (r1_27 G g es _)
    · by_cases e : d = 93
      · subst e
        have hlen := held_len H hl2
        have t : rTold H = [oscT (heldT H)] := by unfold rTold; rw [if_pos hd]
        have r := r2_27y G g es H hl2 (by have := ok.1; omega) hd
        rw [← hlen] at r
        rw [t]
        rw [rheap_cons g es fl h0]
        rcases rone_second (c - 64) (by omega) (by omega) with ⟨e, k⟩ | ⟨e, k, k'⟩
        · rw [e]
          refine ⟨_, _, rput_q1 G _ c h1 h2 (heldT H) _ _ _ _ _ _ _ _ r (rk_q G g es [⟨1, 0, true, rn H⟩, ⟨1, 0, true, rn (heldT H)⟩, ⟨6, 0, false, [[.int .i64 5, .int .i32 0, .int .i32 0, .str ⟨#[]⟩, .data false 1 [] true, .own 3 0 0 (heldT H).length (heldT H).length]]⟩] (c - 64) (by omega) (by omega) k), rst_cons g es (by simp) 5 1 _ rfl (by omega) rfl⟩
        · rw [e]
          exact ⟨_, _, rput_t1 G _ c h1 h2 (heldT H) _ _ _ _ _ _ _ _ _ r (rk_esc G g es [⟨1, 0, true, rn H⟩, ⟨1, 0, true, rn (heldT H)⟩, ⟨6, 0, false, [[.int .i64 5, .int .i32 0, .int .i32 0, .str ⟨#[]⟩, .data false 1 [] true, .own 3 0 0 (heldT H).length (heldT H).length]]⟩] (c - 64) (by omega) (by omega) k k'), _, _, rfl⟩
      · have t : rTold H = [] := by unfold rTold; rw [if_neg (by rw [hd]; simpa using e)]
        refine quiet [⟨1, 0, true, rn H⟩] t ?_
        rw [rheap_cons g es fl h0]
        exact r2_27n G g es H d hl2 (by have := ok.1; omega) hd e
  · rw [if_neg hc]
    obtain ⟨v, hx, b, hy, e1, e2, e3⟩ := rone_ok G g es fl H ok (pointT c) (by omega)
    exact ⟨b, hy, rput_1 G _ c hc v _ hx hy e1 e2, e3⟩
theorem rparse_gc (n : Nat) (dl : AV) (hd : dl.ids = []) (hr : ∀ h low off o, dl.ren h low off o = dl) (i : Int) (h : List ARow) (H : List Int) (hs : RSt g es h H) :
    ∃ fl, agc 0 [0, 3, 4, 5] ⟨[(0, dl), (3, .ptr 0 0 0 0), (4, .own 1 g 0 n n), (5, .int .i64 i)], h⟩ = some ⟨[(0, dl), (3, .ptr 0 0 0 0), (4, .own 1 0 0 n n), (5, .int .i64 i)], rHeap 0 es fl H⟩ := by
  cases H with
  | nil =>
    obtain ⟨fl, R, rfl⟩ := hs
    refine ⟨fl, ?_⟩
    unfold rHeap
    have l0 : 0 < R.length + 1 + 1 := by omega
    have l1 : 1 < R.length + 1 + 1 := by omega
    cases fl <;> (sym => simp [Qa,Qb,Qc,Qd,Qe,Qf,Qg,Qh,Qi,Qj,Qk,Ql,Qm,Qn,Qo,Qp,Qq,Qr,Qs,Qt,Qu,Qv,Qw,Qx,Qy,Qz,Q0,Q1,Q2,Q3,Q4,Q5,Q6,Q7,Q8,Q9,Xa,Xb,Xc,Xd,Xe,Xf,Xg,Xh,Xi,Xj,Xk,Xl,Xm,Xn,Xo,Xp,Xq,Xr,Xs,Xt,Xu,Xv,Xw,Xx,Xy,Xz,X0,X1,X2,X3,X4,X5,X6,X7,X8,X9,Ya,Yb,Yc,Yd,Ye,Yf,Yg,Yh,Yi,Yj,Yk,Yl,Ym,Yn,Yo,Yp,Yq,Yr,Ys,Yt,Yu,Yv,Yw,Yx,Yy,Yz,Y0,Y1,Y2,Y3,Y4,Y5,Y6,Y7,Y8,Y9,Za,Zb,Zc,Zd,Ze,Zf,Zg,Zh,Zi,Zj,Zk,Zl,Zm,Zn,Zo,Zp,Zq,Zr,Zs,Zt,Zu,Zv,Zw,Zx,Zy,Zz,Z0,Z1,Z2,Z3,Z4,Z5,Z6,Z7,Z8,Z9,Ja,Jb,Jc,Jd,Je,Jf,Jg,Jh,Ji,Jj,Jk,Jl,Jm,Jn,Jo,Jp,Jq,Jr,Js,Jt,Ju,Jv,Jw,Jx,Jy,Jz,J0,J1,J2,J3,J4,J5,J6,J7,J8,J9,Ka,Kb,Kc,Kd,Ke,Kf,Kg,Kh,Ki,Kj,Kk,Kl,Km,Kn,Ko,Kp,Kq,Kr,Ks,Kt,Ku,Kv,Kw,Kx,Ky,Kz,K0,K1,K2,K3,K4,K5,K6,K7,K8,K9,Ua,Ub,Uc,Ud,Ue,Uf,Ug,Uh,Ui,Uj,Uk,Ul,Um,Un,Uo,Up,Uq,Ur,Us,Ut,Uu,Uv,Uw,Ux,Uy,Uz,U0,U1,U2,U3,U4,U5,U6,U7,U8,U9,Va,Vb,Vc,Vd,Ve,Vf,Vg,Vh,Vi,Vj,Vk,Vl,Vm,Vn,Vo,Vp,Vq,Vr,Vs,Vt,Vu,Vv,Vw,Vx,Vy,Vz,V0,V1,V2,V3,V4,V5,V6,V7,V8,V9,Wa,Wb,Wc,Wd,We,Wf,Wg,Wh,Wi,Wj,Wk,Wl,Wm,Wn,Wo,Wp,Wq,Wr,Ws,Wt,Wu,Wv,Ww,Wx,Wy,Wz,W0,W1,W2,W3,W4,W5,W6,W7,W8,W9,Ha,Hb,Hc,Hd,He,Hf,Hg,Hh,Hi,Hj,Hk,Hl,Hm,Hn,Ho,Hp,Hq,Hr,Hs,Ht,Hu,Hv,Hw,Hx,Hy,Hz,H0,H1,H2,H3,H4,H5,H6,H7,H8,H9,Na,Nb,Nc,Nd,Ne,Nf,Ng,Nh,Ni,Nj,Nk,Nl,Nm,Nn,No,Np,Nq,Nr,Ns,Nt,Nu,Nv,Nw,Nx,Ny,Nz,N0,N1,N2,N3,N4,N5,N6,N7,N8,N9,Ba,Bb,Bc,Bd,Be,Bf,Bg,Bh,Bi,Bj,Bk,Bl,Bm,Bn,Bo,Bp,Bq,Br,Bs,Bt,Bu,Bv,Bw,Bx,By,Bz,BA,BB,BC,hd,hr,l0,l1])
  | cons x H =>
    obtain ⟨j, gg, R, rfl, hj, hrow⟩ := hs
    refine ⟨false, ?_⟩
    unfold rHeap
    have l0 : 0 < R.length + 1 + 1 := by omega
    have l1 : 1 < R.length + 1 + 1 := by omega
    have j0 : ¬ j = 0 := by omega
    have j1 : ¬ j = 1 := by omega
    have k0 : ¬ 0 = j := by omega
    have k1 : ¬ 1 = j := by omega
    have jl : j < R.length + 1 + 1 := by
      have := (List.getElem?_eq_some_iff.1 hrow).1
      simpa using this
    have jn : ¬ j < 0 := by omega
    have b0 : (j == 0) = false := by simpa using j0
    have b1 : (j == 1) = false := by simpa using j1
    have d0 : (0 == j) = false := by simpa using k0
    have d1 : (1 == j) = false := by simpa using k1
    have jj : (j == j) = true := by simp
    have je : List.elem j [0, 1] = false := by simp [j0, j1]
    have ji : List.idxOf? j [0, 1, j] = some 2 := by simp [List.idxOf?_cons, d0, d1]
    simp only [List.length_cons] at hrow ⊢
    (sym => simp [Qa,Qb,Qc,Qd,Qe,Qf,Qg,Qh,Qi,Qj,Qk,Ql,Qm,Qn,Qo,Qp,Qq,Qr,Qs,Qt,Qu,Qv,Qw,Qx,Qy,Qz,Q0,Q1,Q2,Q3,Q4,Q5,Q6,Q7,Q8,Q9,Xa,Xb,Xc,Xd,Xe,Xf,Xg,Xh,Xi,Xj,Xk,Xl,Xm,Xn,Xo,Xp,Xq,Xr,Xs,Xt,Xu,Xv,Xw,Xx,Xy,Xz,X0,X1,X2,X3,X4,X5,X6,X7,X8,X9,Ya,Yb,Yc,Yd,Ye,Yf,Yg,Yh,Yi,Yj,Yk,Yl,Ym,Yn,Yo,Yp,Yq,Yr,Ys,Yt,Yu,Yv,Yw,Yx,Yy,Yz,Y0,Y1,Y2,Y3,Y4,Y5,Y6,Y7,Y8,Y9,Za,Zb,Zc,Zd,Ze,Zf,Zg,Zh,Zi,Zj,Zk,Zl,Zm,Zn,Zo,Zp,Zq,Zr,Zs,Zt,Zu,Zv,Zw,Zx,Zy,Zz,Z0,Z1,Z2,Z3,Z4,Z5,Z6,Z7,Z8,Z9,Ja,Jb,Jc,Jd,Je,Jf,Jg,Jh,Ji,Jj,Jk,Jl,Jm,Jn,Jo,Jp,Jq,Jr,Js,Jt,Ju,Jv,Jw,Jx,Jy,Jz,J0,J1,J2,J3,J4,J5,J6,J7,J8,J9,Ka,Kb,Kc,Kd,Ke,Kf,Kg,Kh,Ki,Kj,Kk,Kl,Km,Kn,Ko,Kp,Kq,Kr,Ks,Kt,Ku,Kv,Kw,Kx,Ky,Kz,K0,K1,K2,K3,K4,K5,K6,K7,K8,K9,Ua,Ub,Uc,Ud,Ue,Uf,Ug,Uh,Ui,Uj,Uk,Ul,Um,Un,Uo,Up,Uq,Ur,Us,Ut,Uu,Uv,Uw,Ux,Uy,Uz,U0,U1,U2,U3,U4,U5,U6,U7,U8,U9,Va,Vb,Vc,Vd,Ve,Vf,Vg,Vh,Vi,Vj,Vk,Vl,Vm,Vn,Vo,Vp,Vq,Vr,Vs,Vt,Vu,Vv,Vw,Vx,Vy,Vz,V0,V1,V2,V3,V4,V5,V6,V7,V8,V9,Wa,Wb,Wc,Wd,We,Wf,Wg,Wh,Wi,Wj,Wk,Wl,Wm,Wn,Wo,Wp,Wq,Wr,Ws,Wt,Wu,Wv,Ww,Wx,Wy,Wz,W0,W1,W2,W3,W4,W5,W6,W7,W8,W9,Ha,Hb,Hc,Hd,He,Hf,Hg,Hh,Hi,Hj,Hk,Hl,Hm,Hn,Ho,Hp,Hq,Hr,Hs,Ht,Hu,Hv,Hw,Hx,Hy,Hz,H0,H1,H2,H3,H4,H5,H6,H7,H8,H9,Na,Nb,Nc,Nd,Ne,Nf,Ng,Nh,Ni,Nj,Nk,Nl,Nm,Nn,No,Np,Nq,Nr,Ns,Nt,Nu,Nv,Nw,Nx,Ny,Nz,N0,N1,N2,N3,N4,N5,N6,N7,N8,N9,Ba,Bb,Bc,Bd,Be,Bf,Bg,Bh,Bi,Bj,Bk,Bl,Bm,Bn,Bo,Bp,Bq,Br,Bs,Bt,Bu,Bv,Bw,Bx,By,Bz,BA,BB,BC,hd,hr,hrow,jn,je,ji,jj,b0,b1,d0,d1,j0,j1,k0,k1,jl,l0,l1])
end Go.Proofs.Ytkkcblfoaldckaa
