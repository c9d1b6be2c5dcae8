/- The document's parser: what is held, and what one code point makes of it. Conditions: none. -/
import Derived.Test.YtkkcblfoaldckaaVr7
set_option linter.unusedVariables false
set_option linter.unusedSimpArgs false
set_option linter.unusedSectionVars false
set_option maxRecDepth 20000
set_option maxHeartbeats 4000000
namespace Go.Proofs.Ytkkcblfoaldckaa
open Go
variable (G : Nat → Option (List AV)) (g : Nat) (es : List (List AV)) (fl : Bool)
def rTold (H : List Int) : List Act' := if H[1]? = some 93 then [oscT (heldT H)] else []
def rOne (H : List Int) (c : Int) : List Act' × List Int :=
  if c = 27 then (rTold H, [27])
  else if H = [] then (wordT c, [])
  else if c = 24 ∨ c = 26 then (wordT c, [])
  else match H[1]? with
    | none => if c < 32 ∨ c = 127 then (wordT c, H) else if 160 ≤ c then (wordT c, []) else if c < 48 ∨ c = 91 ∨ isStr c = true then ([], H ++ [c]) else (escT [c] c, [])
    | some d => if isStr d = true then (if c = 7 then (rTold H, []) else if 32 ≤ c ∧ c ≠ 127 then ([], H ++ [c]) else ([], H))
      else if c < 32 ∨ c = 127 then (wordT c, H) else if 160 ≤ c then (wordT c, [])
      else if d = 91 then (if c < 64 then ([], H ++ [c]) else (csiT ((H ++ [c]).drop 2) c, []))
      else if c < 48 then ([], H ++ [c]) else (escT ((H ++ [c]).drop 1) c, [])
def rHeap (H : List Int) : List ARow :=
  match H with
  | [] => [⟨1, 0, fl, [[.data false 1 [] true]]⟩, ⟨6, g, true, es⟩]
  | x :: H => [⟨1, 0, false, [[.own 2 0 0 (x :: H).length (x :: H).length]]⟩, ⟨6, g, true, es⟩, ⟨1, 0, true, rn (x :: H)⟩]
def RSt (h : List ARow) : List Int → Prop
  | [] => ∃ fl R, h = ⟨1, 0, fl, [[.data false 1 [] true]]⟩ :: ⟨6, g, true, es⟩ :: R
  | x :: H => ∃ i g' R, h = ⟨1, 0, false, [[.own i g' 0 (x :: H).length (x :: H).length]]⟩ :: ⟨6, g, true, es⟩ :: R ∧ 2 ≤ i ∧ h[i]? = some ⟨1, g', true, rn (x :: H)⟩
/-- What is held may be. -/
def rOk (H : List Int) : Prop := H.length ≤ 9000 ∧ (∀ x ∈ H, x < 1000 ∨ ∃ d, H[1]? = some d ∧ isStr d = true)
theorem rheap_cons {H : List Int} (h : H ≠ []) : rHeap g es fl H = [⟨1, 0, false, [[.own 2 0 0 H.length H.length]]⟩, ⟨6, g, true, es⟩, ⟨1, 0, true, rn H⟩] := by
  cases H with
  | nil => exact absurd rfl h
  | cons x H => rfl
theorem rst_cons {H : List Int} (h0 : H ≠ []) {h : List ARow} (i g' : Nat) (R : List ARow) (e : h = ⟨1, 0, false, [[.own i g' 0 H.length H.length]]⟩ :: ⟨6, g, true, es⟩ :: R) (hi : 2 ≤ i) (hr : h[i]? = some ⟨1, g', true, rn H⟩) : RSt g es h H := by
  cases H with
  | nil => exact absurd rfl h0
  | cons x H => exact ⟨i, g', R, e, hi, hr⟩
def ROneOk (r : Option (AV × List ARow)) (x : List Act' × List Int) : Prop :=
  ∃ v h1 b h2, r = some (v, h1) ∧ amelt h1 v = some (.data false 6 (actG x.1) b, h2) ∧ RSt g es h2 x.2
theorem held_len (H : List Int) (h : 2 ≤ H.length) : (heldT H).length = min H.length 66 - 2 := by
  simp only [heldT, List.length_drop, List.length_take]; omega
theorem melt_rosc (p o a b : ARow) (ts : List Int) : amelt [p, o, a, ⟨1, 0, true, rn ts⟩, ⟨6, 0, false, [[.int .i64 5, .int .i32 0, .int .i32 0, .str ⟨#[]⟩, .data false 1 [] true, .own 3 0 0 ts.length ts.length]]⟩, b] (.own 4 0 0 1 1) =
    some (.data false 6 (actG [oscT ts]) false, [p, o, a, ⟨1, 1, true, []⟩, ⟨6, 1, true, []⟩, b]) := by
  have l1 := rn_len ts
  have l2 := rn_take ts
  have ae : actG [oscT ts] = [[.int .i64 5, .int .i32 0, .int .i32 0, .str ⟨#[]⟩, .data false 1 [] true, .data false 1 (rn ts) false]] := rfl
  rw [ae]
  (sym => simp [Qa,Qb,Qc,Qd,Qe,Qf,Qg,Qh,Qi,Qj,Qk,Ql,Qm,Qn,Qo,Qp,Qq,Qr,Qs,Qt,Qu,Qv,Qw,Qx,Qy,Qz,Q0,Q1,Q2,Q3,Q4,Q5,Q6,Q7,Q8,Q9,Xa,Xb,Xc,Xd,Xe,Xf,Xg,Xh,Xi,Xj,Xk,Xl,Xm,Xn,Xo,Xp,Xq,Xr,Xs,Xt,Xu,Xv,Xw,Xx,Xy,Xz,X0,X1,X2,X3,X4,X5,X6,X7,X8,X9,Ya,Yb,Yc,Yd,Ye,Yf,Yg,Yh,Yi,Yj,Yk,Yl,Ym,Yn,Yo,Yp,Yq,Yr,Ys,Yt,Yu,Yv,Yw,Yx,Yy,Yz,Y0,Y1,Y2,Y3,Y4,Y5,Y6,Y7,Y8,Y9,Za,Zb,Zc,Zd,Ze,Zf,Zg,Zh,Zi,Zj,Zk,Zl,Zm,Zn,Zo,Zp,Zq,Zr,Zs,Zt,Zu,Zv,Zw,Zx,Zy,Zz,Z0,Z1,Z2,Z3,Z4,Z5,Z6,Z7,Z8,Z9,Ja,Jb,Jc,Jd,Je,Jf,Jg,Jh,Ji,Jj,Jk,Jl,Jm,Jn,Jo,Jp,Jq,Jr,Js,Jt,Ju,Jv,Jw,Jx,Jy,Jz,J0,J1,J2,J3,J4,J5,J6,J7,J8,J9,Ka,Kb,Kc,Kd,Ke,Kf,Kg,Kh,Ki,Kj,Kk,Kl,Km,Kn,Ko,Kp,Kq,Kr,Ks,Kt,Ku,Kv,Kw,Kx,Ky,Kz,K0,K1,K2,K3,K4,K5,K6,K7,K8,K9,Ua,Ub,Uc,Ud,Ue,Uf,Ug,Uh,Ui,Uj,Uk,Ul,Um,Un,Uo,Up,Uq,Ur,Us,Ut,Uu,Uv,Uw,Ux,Uy,Uz,U0,U1,U2,U3,U4,U5,U6,U7,U8,U9,Va,Vb,Vc,Vd,Ve,Vf,Vg,Vh,Vi,Vj,Vk,Vl,Vm,Vn,Vo,Vp,Vq,Vr,Vs,Vt,Vu,Vv,Vw,Vx,Vy,Vz,V0,V1,V2,V3,V4,V5,V6,V7,V8,V9,Wa,Wb,Wc,Wd,We,Wf,Wg,Wh,Wi,Wj,Wk,Wl,Wm,Wn,Wo,Wp,Wq,Wr,Ws,Wt,Wu,Wv,Ww,Wx,Wy,Wz,W0,W1,W2,W3,W4,W5,W6,W7,W8,W9,Ha,Hb,Hc,Hd,He,Hf,Hg,Hh,Hi,Hj,Hk,Hl,Hm,Hn,Ho,Hp,Hq,Hr,Hs,Ht,Hu,Hv,Hw,Hx,Hy,Hz,H0,H1,H2,H3,H4,H5,H6,H7,H8,H9,Na,Nb,Nc,Nd,Ne,Nf,Ng,Nh,Ni,Nj,Nk,Nl,Nm,Nn,No,Np,Nq,Nr,Ns,Nt,Nu,Nv,Nw,Nx,Ny,Nz,N0,N1,N2,N3,N4,N5,N6,N7,N8,N9,Ba,Bb,Bc,Bd,Be,Bf,Bg,Bh,Bi,Bj,Bk,Bl,Bm,Bn,Bo,Bp,Bq,Br,Bs,Bt,Bu,Bv,Bw,Bx,By,Bz,BA,BB,BC,l1,l2])
theorem melt_rosc' (p o a : ARow) (ts : List Int) : amelt [p, o, a, ⟨1, 0, true, rn ts⟩, ⟨6, 0, false, [[.int .i64 5, .int .i32 0, .int .i32 0, .str ⟨#[]⟩, .data false 1 [] true, .own 3 0 0 ts.length ts.length]]⟩] (.own 4 0 0 1 1) =
    some (.data false 6 (actG [oscT ts]) false, [p, o, a, ⟨1, 1, true, []⟩, ⟨6, 1, true, []⟩]) := by
  have l1 := rn_len ts
  have l2 := rn_take ts
  have ae : actG [oscT ts] = [[.int .i64 5, .int .i32 0, .int .i32 0, .str ⟨#[]⟩, .data false 1 [] true, .data false 1 (rn ts) false]] := rfl
  rw [ae]
  (sym => simp [Qa,Qb,Qc,Qd,Qe,Qf,Qg,Qh,Qi,Qj,Qk,Ql,Qm,Qn,Qo,Qp,Qq,Qr,Qs,Qt,Qu,Qv,Qw,Qx,Qy,Qz,Q0,Q1,Q2,Q3,Q4,Q5,Q6,Q7,Q8,Q9,Xa,Xb,Xc,Xd,Xe,Xf,Xg,Xh,Xi,Xj,Xk,Xl,Xm,Xn,Xo,Xp,Xq,Xr,Xs,Xt,Xu,Xv,Xw,Xx,Xy,Xz,X0,X1,X2,X3,X4,X5,X6,X7,X8,X9,Ya,Yb,Yc,Yd,Ye,Yf,Yg,Yh,Yi,Yj,Yk,Yl,Ym,Yn,Yo,Yp,Yq,Yr,Ys,Yt,Yu,Yv,Yw,Yx,Yy,Yz,Y0,Y1,Y2,Y3,Y4,Y5,Y6,Y7,Y8,Y9,Za,Zb,Zc,Zd,Ze,Zf,Zg,Zh,Zi,Zj,Zk,Zl,Zm,Zn,Zo,Zp,Zq,Zr,Zs,Zt,Zu,Zv,Zw,Zx,Zy,Zz,Z0,Z1,Z2,Z3,Z4,Z5,Z6,Z7,Z8,Z9,Ja,Jb,Jc,Jd,Je,Jf,Jg,Jh,Ji,Jj,Jk,Jl,Jm,Jn,Jo,Jp,Jq,Jr,Js,Jt,Ju,Jv,Jw,Jx,Jy,Jz,J0,J1,J2,J3,J4,J5,J6,J7,J8,J9,Ka,Kb,Kc,Kd,Ke,Kf,Kg,Kh,Ki,Kj,Kk,Kl,Km,Kn,Ko,Kp,Kq,Kr,Ks,Kt,Ku,Kv,Kw,Kx,Ky,Kz,K0,K1,K2,K3,K4,K5,K6,K7,K8,K9,Ua,Ub,Uc,Ud,Ue,Uf,Ug,Uh,Ui,Uj,Uk,Ul,Um,Un,Uo,Up,Uq,Ur,Us,Ut,Uu,Uv,Uw,Ux,Uy,Uz,U0,U1,U2,U3,U4,U5,U6,U7,U8,U9,Va,Vb,Vc,Vd,Ve,Vf,Vg,Vh,Vi,Vj,Vk,Vl,Vm,Vn,Vo,Vp,Vq,Vr,Vs,Vt,Vu,Vv,Vw,Vx,Vy,Vz,V0,V1,V2,V3,V4,V5,V6,V7,V8,V9,Wa,Wb,Wc,Wd,We,Wf,Wg,Wh,Wi,Wj,Wk,Wl,Wm,Wn,Wo,Wp,Wq,Wr,Ws,Wt,Wu,Wv,Ww,Wx,Wy,Wz,W0,W1,W2,W3,W4,W5,W6,W7,W8,W9,Ha,Hb,Hc,Hd,He,Hf,Hg,Hh,Hi,Hj,Hk,Hl,Hm,Hn,Ho,Hp,Hq,Hr,Hs,Ht,Hu,Hv,Hw,Hx,Hy,Hz,H0,H1,H2,H3,H4,H5,H6,H7,H8,H9,Na,Nb,Nc,Nd,Ne,Nf,Ng,Nh,Ni,Nj,Nk,Nl,Nm,Nn,No,Np,Nq,Nr,Ns,Nt,Nu,Nv,Nw,Nx,Ny,Nz,N0,N1,N2,N3,N4,N5,N6,N7,N8,N9,Ba,Bb,Bc,Bd,Be,Bf,Bg,Bh,Bi,Bj,Bk,Bl,Bm,Bn,Bo,Bp,Bq,Br,Bs,Bt,Bu,Bv,Bw,Bx,By,Bz,BA,BB,BC,l1,l2])
theorem rone_ok (H : List Int) (ok : rOk H) (c : Int) (hc : c < 128 ∨ 160 ≤ c) : ROneOk g es (aR G FT n_ref11_Parser_one [.ptr 0 0 0 0, .int .i32 c] (rHeap g es fl H)) (rOne H c) := by
  obtain ⟨hl, hx⟩ := ok
  unfold rOne
  have two : H ≠ [] → (H[1]? = none ∧ ∃ x, H = [x]) ∨ ∃ d, H[1]? = some d ∧ 2 ≤ H.length := fun h0 => by
    match H with
    | [] => exact absurd rfl h0
    | [x] => exact .inl ⟨rfl, x, rfl⟩
    | x :: y :: r => exact .inr ⟨y, rfl, by simp⟩
  by_cases k27 : c = 27
  · rw [if_pos k27]
    subst k27
    by_cases h0 : H = []
    · subst h0
      exact ⟨_, _, _, _, r0_27 G g es fl, melt_D0 _, rst_cons g es (by simp) _ _ _ rfl (Nat.le_refl _) rfl⟩
    rw [rheap_cons g es fl h0]
    rcases two h0 with ⟨_, x, rfl⟩ | ⟨d, hd, h2⟩
    · exact ⟨_, _, _, _, r1_27 G g es _, melt_D0 _, rst_cons g es (by simp) 3 0 _ rfl (by omega) rfl⟩
    · by_cases e : d = 93
      · subst e
        have hlen := held_len H h2
        have t : rTold H = [oscT (heldT H)] := by unfold rTold; rw [if_pos hd]
        rw [t]
        have r := r2_27y G g es H h2 (by omega) hd
        rw [← hlen] at r
        exact ⟨_, _, _, _, r, melt_rosc _ _ _ _ _, rst_cons g es (by simp) 5 0 _ rfl (by omega) rfl⟩
      · have t : rTold H = [] := by unfold rTold; rw [if_neg (by rw [hd]; simpa using e)]
        rw [t]
        exact ⟨_, _, _, _, r2_27n G g es H d h2 (by omega) hd e, melt_D0 _, rst_cons g es (by simp) 3 0 _ rfl (by omega) rfl⟩
  rw [if_neg k27]
  by_cases h0 : H = []
  · rw [if_pos h0]
    subst h0
    exact ⟨_, _, _, _, r0_word G g es fl c k27, melt_data _ _ _, _, _, rfl⟩
  rw [if_neg h0, rheap_cons g es fl h0]
  by_cases k2 : c = 24 ∨ c = 26
  · rw [if_pos k2]
    exact ⟨_, _, _, _, r_can G g es H h0 c k2, melt_data _ _ _, _, _, rfl⟩
  rw [if_neg k2]
  have k3 : ¬ c = 24 := fun h => k2 (.inl h)
  have k4 : ¬ c = 26 := fun h => k2 (.inr h)
  rcases two h0 with ⟨hd, x, rfl⟩ | ⟨d, hd, h2⟩
  · rw [hd]
    simp only
    by_cases c1 : c < 32 ∨ c = 127
    · rw [if_pos c1]; exact ⟨_, _, _, _, r1_low G g es c k27 k3 k4 c1 _, melt_data _ _ _, rst_cons g es (by simp) 2 0 _ rfl (Nat.le_refl _) rfl⟩
    rw [if_neg c1]
    by_cases c2 : 160 ≤ c
    · rw [if_pos c2]; exact ⟨_, _, _, _, r1_hi G g es c c2 _, melt_data _ _ _, _, _, rfl⟩
    rw [if_neg c2]
    by_cases c3 : c < 48 ∨ c = 91 ∨ isStr c = true
    · rw [if_pos c3]; exact ⟨_, _, _, _, r1_q G g es c (by omega) (by omega) (by omega) c3 _, melt_D0 _, rst_cons g es (by simp) 2 1 _ rfl (Nat.le_refl _) rfl⟩
    · rw [if_neg c3]
      exact ⟨_, _, _, _, r1_esc G g es c (by omega) (by omega) (by omega) (by omega) (by simpa using fun h => c3 (.inr (.inr h))) _, melt_data _ _ _, _, _, rfl⟩
  · rw [hd]
    simp only
    have ap : rn H ++ [[.int .i32 c]] = rn (H ++ [c]) := by simp [rn]
    have al : H.length + 1 = (H ++ [c]).length := by simp
    by_cases s : isStr d = true
    · rw [if_pos s]
      by_cases c1 : c = 7
      · rw [if_pos c1]
        subst c1
        by_cases e : d = 93
        · subst e
          have hlen := held_len H h2
          have t : rTold H = [oscT (heldT H)] := by unfold rTold; rw [if_pos hd]
          rw [t]
          have r := r2s_7y G g es H h2 hl hd
          rw [← hlen] at r
          exact ⟨_, _, _, _, r, melt_rosc' _ _ _ _, _, _, rfl⟩
        · have t : rTold H = [] := by unfold rTold; rw [if_neg (by rw [hd]; simpa using e)]
          rw [t]
          exact ⟨_, _, _, _, r2s_7n G g es H d h2 hl hd s e, melt_D0 _, _, _, rfl⟩
      rw [if_neg c1]
      by_cases c2 : 32 ≤ c ∧ c ≠ 127
      · rw [if_pos c2]
        have r := r2s_add G g es H d h2 hl hd s c c2.1 c2.2
        rw [ap, al] at r
        exact ⟨_, _, _, _, r, melt_D0 _, rst_cons g es (by simp) 2 1 _ rfl (Nat.le_refl _) rfl⟩
      · rw [if_neg c2]
        exact ⟨_, _, _, _, r2s_no G g es H d h2 hl hd s c k27 k3 k4 c1 (by omega), melt_D0 _, rst_cons g es h0 2 0 _ rfl (Nat.le_refl _) rfl⟩
    · rw [if_neg s]
      have s' : isStr d = false := by simpa using s
      by_cases c1 : c < 32 ∨ c = 127
      · rw [if_pos c1]; exact ⟨_, _, _, _, r2_low G g es H d h2 (by omega) hd s' c k27 k3 k4 c1, melt_data _ _ _, rst_cons g es h0 2 0 _ rfl (Nat.le_refl _) rfl⟩
      rw [if_neg c1]
      by_cases c2 : 160 ≤ c
      · rw [if_pos c2]; exact ⟨_, _, _, _, r2_hi G g es H d h2 (by omega) hd s' c c2, melt_data _ _ _, _, _, rfl⟩
      rw [if_neg c2]
      by_cases c3 : d = 91
      · rw [if_pos c3]
        by_cases c4 : c < 64
        · rw [if_pos c4]
          have r := r2_q G g es H d h2 (by omega) hd s' c (by omega) (by omega) (by omega) (.inl ⟨c3, c4⟩)
          rw [ap, al] at r
          exact ⟨_, _, _, _, r, melt_D0 _, rst_cons g es (by simp) 2 1 _ rfl (Nat.le_refl _) rfl⟩
        · rw [if_neg c4]
          have hx' : ∀ x ∈ H, x < 1000 := fun x h => by
            rcases hx x h with h | ⟨d', e, h⟩
            · exact h
            · rw [hd] at e; cases e; exact absurd h s
          exact ⟨_, _, _, _, r2_csi G g es H d h2 hl hd c (by omega) (by omega) (by omega) c3 hx', melt_data _ _ _, _, _, rfl⟩
      · rw [if_neg c3]
        by_cases c4 : c < 48
        · rw [if_pos c4]
          have r := r2_q G g es H d h2 (by omega) hd s' c (by omega) (by omega) (by omega) (.inr ⟨c3, c4⟩)
          rw [ap, al] at r
          exact ⟨_, _, _, _, r, melt_D0 _, rst_cons g es (by simp) 2 1 _ rfl (Nat.le_refl _) rfl⟩
        · rw [if_neg c4]
          exact ⟨_, _, _, _, r2_esc G g es H d h2 hl hd s' c (by omega) (by omega) (by omega) c3, melt_data _ _ _, _, _, rfl⟩
end Go.Proofs.Ytkkcblfoaldckaa
