/- The document's parser: Parse, whole. Conditions: none. -/
import Derived.Test.YtkkcblfoaldckaaVrB
set_option linter.unusedVariables false
set_option linter.unusedSimpArgs false
set_option linter.unusedSectionVars false
set_option maxRecDepth 20000
set_option maxHeartbeats 4000000
namespace Go.Proofs.Ytkkcblfoaldckaa
open Go
variable (G : Nat → Option (List AV)) (g : Nat) (es : List (List AV)) (fl : Bool)
/-- What is held may be, after i points. -/
def rInv (i : Nat) (H : List Int) : Prop := H.length ≤ i + 2 ∧ (∀ x ∈ H, x < 1000 ∨ ∃ d, H[1]? = some d ∧ isStr d = true)
theorem rinv_one (i : Nat) (H : List Int) (c : Int) (h : rInv i H) : rInv (i + 1) (rOne H c).2 := by
  obtain ⟨h1, h2⟩ := h
  have n : rInv (i + 1) [] := ⟨by simp, fun x h => by cases h⟩
  have k : rInv (i + 1) H := ⟨by omega, h2⟩
  have s27 : rInv (i + 1) [27] := ⟨by simp, fun x h => by simp at h; subst h; exact .inl (by omega)⟩
  unfold rOne
  split
  · exact s27
  split
  · exact n
  split
  · exact n
  rename_i hne _
  have len : ∀ c : Int, (H ++ [c]).length ≤ i + 1 + 2 := fun c => by rw [List.length_append, List.length_singleton]; omega
  cases hd : H[1]? with
  | none =>
    simp only
    split
    · exact k
    split
    · exact n
    split
    · rename_i k1 k2 k3
      refine ⟨len c, fun x hx => .inl ?_⟩
      rcases List.mem_append.1 hx with h | h
      · rcases h2 x h with h | ⟨d, e, _⟩
        · exact h
        · rw [hd] at e; cases e
      · simp at h; omega
    · exact n
  | some d =>
    simp only
    have hd' : ∀ c : Int, (H ++ [c])[1]? = some d := fun c => by
      rw [List.getElem?_append_left (List.getElem?_eq_some_iff.1 hd).1]; exact hd
    split
    · rename_i hs
      split
      · exact n
      split
      · exact ⟨len c, fun x _ => .inr ⟨d, hd' c, hs⟩⟩
      · exact k
    · rename_i hs
      have ap : c < 160 → rInv (i + 1) (H ++ [c]) := fun hc => ⟨len c, fun x hx => .inl (by
        rcases List.mem_append.1 hx with h | h
        · rcases h2 x h with h | ⟨d', e, h⟩
          · exact h
          · rw [hd] at e; cases e; exact absurd h hs
        · simp at h; omega)⟩
      split
      · exact k
      split
      · exact n
      split
      · split
        · exact ap (by omega)
        · exact n
      · split
        · exact ap (by omega)
        · exact n
theorem rinv_put (i : Nat) (H : List Int) (c : Int) (h : rInv i H) : rInv (i + 1) (rPut H c).2 := by
  unfold rPut
  split
  · exact rinv_one i [27] _ ⟨by simp, fun x h => by simp at h; subst h; exact .inl (by omega)⟩
  · exact rinv_one i H _ h
def rRun : List Int → List Int → List Act'
  | _, [] => []
  | H, c :: l => (rPut H c).1 ++ rRun (rPut H c).2 l
theorem rput_count (H : List Int) (c : Int) : (rPut H c).1.length ≤ 2 := by
  have hw : ∀ c, (wordT c).length ≤ 1 := fun c => by unfold wordT; split <;> (try split) <;> simp
  have ht : ∀ H, (rTold H).length ≤ 1 := fun H => by unfold rTold; split <;> simp
  have h1 : ∀ l z, (escT l z).length ≤ 1 := fun l z => by unfold escT; split <;> simp
  have h2 : ∀ l z, (csiT l z).length ≤ 1 := fun l z => by
    unfold csiT
    split
    · simp
    · split
      · simp
      · split <;> simp
  have one : ∀ H c, (rOne H c).1.length ≤ 1 := fun H c => by
    have w := hw c
    have t := ht H
    have z : ([] : List Act').length ≤ 1 := by simp
    unfold rOne
    split
    · exact t
    split
    · exact w
    split
    · exact w
    split
    · split
      · exact w
      split
      · exact w
      split
      · exact z
      · exact h1 [c] c
    · split
      · split
        · exact t
        split
        · exact z
        · exact z
      split
      · exact w
      split
      · exact w
      split
      · split
        · exact z
        · exact h2 _ _
      · split
        · exact z
        · exact h1 _ _
  unfold rPut
  split
  · rw [List.length_append]
    have := ht H
    have := one [27] (pointT c - 64)
    omega
  · have := one H (pointT c); omega
theorem rst_split {h : List ARow} {H : List Int} (hs : RSt g es h H) : ∃ p R, h = p :: ⟨6, g, true, es⟩ :: R := by
  cases H with
  | nil => obtain ⟨_, R, e⟩ := hs; exact ⟨_, R, e⟩
  | cons x H => obtain ⟨_, _, R, e, _⟩ := hs; exact ⟨_, R, e⟩
theorem rst_swap {g' : Nat} {es' : List (List AV)} {p : ARow} {R : List ARow} {H : List Int} (hs : RSt g es (p :: ⟨6, g, true, es⟩ :: R) H) : RSt g' es' (p :: ⟨6, g', true, es'⟩ :: R) H := by
  cases H with
  | nil => obtain ⟨f, R', e⟩ := hs; cases e; exact ⟨f, R, rfl⟩
  | cons x H =>
    obtain ⟨i, k, R', e, hi, hr⟩ := hs
    cases e
    refine ⟨i, k, R, rfl, hi, ?_⟩
    obtain ⟨j, rfl⟩ : ∃ j, i = j + 1 + 1 := ⟨i - 2, by omega⟩
    simpa using hr
theorem rparse_loop (l : List Int) (bl fl : Bool) (hl : l.length ≤ 8000) : ∀ m i, i + m = l.length → ∀ (H : List Int) (out : List Act') (g : Nat) (h : List ARow), rInv i H → out.length ≤ 2 * i → RSt g (actG out) h H →
    ∃ p R, aE G FT 0 lp_ref11_Parse_0 ⟨[(0, .data bl 1 (rn l) fl), (3, .ptr 0 0 0 0), (4, .own 1 g 0 out.length out.length), (5, .int .i64 i)], h⟩ =
      some (.exit 0, ⟨[(0, .data bl 1 (rn l) fl), (3, .ptr 0 0 0 0), (4, .own 1 0 0 (out ++ rRun H (l.drop i)).length (out ++ rRun H (l.drop i)).length), (5, .int .i64 l.length), (11, .bool false)], p :: ⟨6, 0, true, actG (out ++ rRun H (l.drop i))⟩ :: R⟩) := by
  intro m
  have rl := rn_len l
  induction m with
  | zero =>
    intro i hi H out g h ok ho hs
    obtain rfl : i = l.length := by omega
    obtain ⟨f2, hg⟩ := rparse_gc g (actG out) out.length (.data bl 1 (rn l) fl) (by simp [AV.ids]) (fun _ _ _ _ => by simp [AV.ren]) l.length h H hs
    have h4 : ¬ (l.length : Int) < l.length := by omega
    have e : out ++ rRun H (l.drop l.length) = out := by simp [rRun]
    have hc : ∃ p R, rHeap 0 (actG out) f2 H = p :: ⟨6, 0, true, actG out⟩ :: R := by cases H <;> exact ⟨_, _, rfl⟩
    obtain ⟨p, R, hc⟩ := hc
    refine ⟨p, R, ?_⟩
    rw [lp_ref11_Parse_0, y_loop, hg, e, hc]
    (sym => simp [Qa,Qb,Qc,Qd,Qe,Qf,Qg,Qh,Qi,Qj,Qk,Ql,Qm,Qn,Qo,Qp,Qq,Qr,Qs,Qt,Qu,Qv,Qw,Qx,Qy,Qz,Q0,Q1,Q2,Q3,Q4,Q5,Q6,Q7,Q8,Q9,Xa,Xb,Xc,Xd,Xe,Xf,Xg,Xh,Xi,Xj,Xk,Xl,Xm,Xn,Xo,Xp,Xq,Xr,Xs,Xt,Xu,Xv,Xw,Xx,Xy,Xz,X0,X1,X2,X3,X4,X5,X6,X7,X8,X9,Ya,Yb,Yc,Yd,Ye,Yf,Yg,Yh,Yi,Yj,Yk,Yl,Ym,Yn,Yo,Yp,Yq,Yr,Ys,Yt,Yu,Yv,Yw,Yx,Yy,Yz,Y0,Y1,Y2,Y3,Y4,Y5,Y6,Y7,Y8,Y9,Za,Zb,Zc,Zd,Ze,Zf,Zg,Zh,Zi,Zj,Zk,Zl,Zm,Zn,Zo,Zp,Zq,Zr,Zs,Zt,Zu,Zv,Zw,Zx,Zy,Zz,Z0,Z1,Z2,Z3,Z4,Z5,Z6,Z7,Z8,Z9,Ja,Jb,Jc,Jd,Je,Jf,Jg,Jh,Ji,Jj,Jk,Jl,Jm,Jn,Jo,Jp,Jq,Jr,Js,Jt,Ju,Jv,Jw,Jx,Jy,Jz,J0,J1,J2,J3,J4,J5,J6,J7,J8,J9,Ka,Kb,Kc,Kd,Ke,Kf,Kg,Kh,Ki,Kj,Kk,Kl,Km,Kn,Ko,Kp,Kq,Kr,Ks,Kt,Ku,Kv,Kw,Kx,Ky,Kz,K0,K1,K2,K3,K4,K5,K6,K7,K8,K9,Ua,Ub,Uc,Ud,Ue,Uf,Ug,Uh,Ui,Uj,Uk,Ul,Um,Un,Uo,Up,Uq,Ur,Us,Ut,Uu,Uv,Uw,Ux,Uy,Uz,U0,U1,U2,U3,U4,U5,U6,U7,U8,U9,Va,Vb,Vc,Vd,Ve,Vf,Vg,Vh,Vi,Vj,Vk,Vl,Vm,Vn,Vo,Vp,Vq,Vr,Vs,Vt,Vu,Vv,Vw,Vx,Vy,Vz,V0,V1,V2,V3,V4,V5,V6,V7,V8,V9,Wa,Wb,Wc,Wd,We,Wf,Wg,Wh,Wi,Wj,Wk,Wl,Wm,Wn,Wo,Wp,Wq,Wr,Ws,Wt,Wu,Wv,Ww,Wx,Wy,Wz,W0,W1,W2,W3,W4,W5,W6,W7,W8,W9,Ha,Hb,Hc,Hd,He,Hf,Hg,Hh,Hi,Hj,Hk,Hl,Hm,Hn,Ho,Hp,Hq,Hr,Hs,Ht,Hu,Hv,Hw,Hx,Hy,Hz,H0,H1,H2,H3,H4,H5,H6,H7,H8,H9,Na,Nb,Nc,Nd,Ne,Nf,Ng,Nh,Ni,Nj,Nk,Nl,Nm,Nn,No,Np,Nq,Nr,Ns,Nt,Nu,Nv,Nw,Nx,Ny,Nz,N0,N1,N2,N3,N4,N5,N6,N7,N8,N9,Ba,Bb,Bc,Bd,Be,Bf,Bg,Bh,Bi,Bj,Bk,Bl,Bm,Bn,Bo,Bp,Bq,Br,Bs,Bt,Bu,Bv,Bw,Bx,By,Bz,BA,BB,BC,q7R0.eq_1,q7R1.eq_1,q7R2.eq_1,q7R3.eq_1,q7R4.eq_1,q7R6.eq_1,q7R5.eq_1,q7R7.eq_1,c_ref11_Parse.eq_1,c_ref11_Parse_L0.eq_1,h4,rl])
  | succ m ih =>
    intro i hi H out g h ok ho hs
    have hn : i < l.length := by omega
    obtain ⟨f2, hg⟩ := rparse_gc g (actG out) out.length (.data bl 1 (rn l) fl) (by simp [AV.ids]) (fun _ _ _ _ => by simp [AV.ren]) i h H hs
    obtain ⟨b, hy, p1, p2⟩ := rput_ok G 0 (actG out) f2 H ⟨by have := ok.1; omega, ok.2⟩ l[i]
    have hc := rput_count H l[i]
    obtain ⟨p, hr, rfl⟩ := rst_split 0 (actG out) p2
    have ol := actG_len out
    have od : (actG out).take out.length = actG out := List.take_of_length_le (by rw [ol]; exact Nat.le_refl _)
    have pl := actG_len (rPut H l[i]).1
    have hw := wrap_nat (n := i) (by omega)
    have q1 : (i : Int) < l.length := by omega
    have a1 := rn_at hn
    have q2 : (out.length + (rPut H l[i]).1.length) * 80 ≤ 140737488355328 := by omega
    obtain ⟨p', R, ih⟩ := ih (i + 1) (by omega) (rPut H l[i]).2 (out ++ (rPut H l[i]).1) 1 (p :: ⟨6, 1, true, actG (out ++ (rPut H l[i]).1)⟩ :: hr) (rinv_put i H _ ok) (by rw [List.length_append]; omega) (rst_swap 0 (actG out) p2)
    refine ⟨p', R, ?_⟩
    rw [show out ++ rRun H (l.drop i) = out ++ (rPut H l[i]).1 ++ rRun (rPut H l[i]).2 (l.drop (i + 1)) from by rw [List.drop_eq_getElem_cons hn, rRun, List.append_assoc]]
    have hcn : ∃ p0 R0, rHeap 0 (actG out) f2 H = p0 :: ⟨6, 0, true, actG out⟩ :: R0 := by cases H <;> exact ⟨_, _, rfl⟩
    obtain ⟨p0, R0, hcn⟩ := hcn
    rw [hcn] at hg p1
    rw [lp_ref11_Parse_0] at ih
    rw [lp_ref11_Parse_0, y_loop, hg, ← ih]
    (sym => simp [Qa,Qb,Qc,Qd,Qe,Qf,Qg,Qh,Qi,Qj,Qk,Ql,Qm,Qn,Qo,Qp,Qq,Qr,Qs,Qt,Qu,Qv,Qw,Qx,Qy,Qz,Q0,Q1,Q2,Q3,Q4,Q5,Q6,Q7,Q8,Q9,Xa,Xb,Xc,Xd,Xe,Xf,Xg,Xh,Xi,Xj,Xk,Xl,Xm,Xn,Xo,Xp,Xq,Xr,Xs,Xt,Xu,Xv,Xw,Xx,Xy,Xz,X0,X1,X2,X3,X4,X5,X6,X7,X8,X9,Ya,Yb,Yc,Yd,Ye,Yf,Yg,Yh,Yi,Yj,Yk,Yl,Ym,Yn,Yo,Yp,Yq,Yr,Ys,Yt,Yu,Yv,Yw,Yx,Yy,Yz,Y0,Y1,Y2,Y3,Y4,Y5,Y6,Y7,Y8,Y9,Za,Zb,Zc,Zd,Ze,Zf,Zg,Zh,Zi,Zj,Zk,Zl,Zm,Zn,Zo,Zp,Zq,Zr,Zs,Zt,Zu,Zv,Zw,Zx,Zy,Zz,Z0,Z1,Z2,Z3,Z4,Z5,Z6,Z7,Z8,Z9,Ja,Jb,Jc,Jd,Je,Jf,Jg,Jh,Ji,Jj,Jk,Jl,Jm,Jn,Jo,Jp,Jq,Jr,Js,Jt,Ju,Jv,Jw,Jx,Jy,Jz,J0,J1,J2,J3,J4,J5,J6,J7,J8,J9,Ka,Kb,Kc,Kd,Ke,Kf,Kg,Kh,Ki,Kj,Kk,Kl,Km,Kn,Ko,Kp,Kq,Kr,Ks,Kt,Ku,Kv,Kw,Kx,Ky,Kz,K0,K1,K2,K3,K4,K5,K6,K7,K8,K9,Ua,Ub,Uc,Ud,Ue,Uf,Ug,Uh,Ui,Uj,Uk,Ul,Um,Un,Uo,Up,Uq,Ur,Us,Ut,Uu,Uv,Uw,Ux,Uy,Uz,U0,U1,U2,U3,U4,U5,U6,U7,U8,U9,Va,Vb,Vc,Vd,Ve,Vf,Vg,Vh,Vi,Vj,Vk,Vl,Vm,Vn,Vo,Vp,Vq,Vr,Vs,Vt,Vu,Vv,Vw,Vx,Vy,Vz,V0,V1,V2,V3,V4,V5,V6,V7,V8,V9,Wa,Wb,Wc,Wd,We,Wf,Wg,Wh,Wi,Wj,Wk,Wl,Wm,Wn,Wo,Wp,Wq,Wr,Ws,Wt,Wu,Wv,Ww,Wx,Wy,Wz,W0,W1,W2,W3,W4,W5,W6,W7,W8,W9,Ha,Hb,Hc,Hd,He,Hf,Hg,Hh,Hi,Hj,Hk,Hl,Hm,Hn,Ho,Hp,Hq,Hr,Hs,Ht,Hu,Hv,Hw,Hx,Hy,Hz,H0,H1,H2,H3,H4,H5,H6,H7,H8,H9,Na,Nb,Nc,Nd,Ne,Nf,Ng,Nh,Ni,Nj,Nk,Nl,Nm,Nn,No,Np,Nq,Nr,Ns,Nt,Nu,Nv,Nw,Nx,Ny,Nz,N0,N1,N2,N3,N4,N5,N6,N7,N8,N9,Ba,Bb,Bc,Bd,Be,Bf,Bg,Bh,Bi,Bj,Bk,Bl,Bm,Bn,Bo,Bp,Bq,Br,Bs,Bt,Bu,Bv,Bw,Bx,By,Bz,BA,BB,BC,q7R0.eq_1,q7R1.eq_1,q7R2.eq_1,q7R3.eq_1,q7R4.eq_1,q7R6.eq_1,q7R5.eq_1,q7R7.eq_1,c_ref11_Parse.eq_1,c_ref11_Parse_L0.eq_1,q1,hw,a1,p1,ol,od,pl,q2,rl,actG_app,List.length_append])
theorem rparse_P (l : List Int) (bl fl : Bool) (hl : l.length ≤ 8000) : aP G FT n_ref11_Parse [.data bl 1 (rn l) fl] = some (.data false 6 (actG (rRun [] l)) false) := by
  obtain ⟨p, R, k⟩ := rparse_loop G l bl fl hl l.length 0 (by omega) [] [] 0 [⟨1, 0, true, [[.data false 1 [] true]]⟩, ⟨6, 0, true, []⟩] ⟨by simp, fun x h => by cases h⟩ (by simp) ⟨true, [], rfl⟩
  rw [List.drop_zero, List.nil_append, List.length_nil] at k
  have ol := actG_len (rRun [] l)
  have od : (actG (rRun [] l)).take (rRun [] l).length = actG (rRun [] l) := List.take_of_length_le (by rw [ol]; exact Nat.le_refl _)
  have rl := rn_len l
  simp only [Int.natCast_zero] at k
  unfold aP
  rw [run_ref11_Parse]
  (sym => simp [Qa,Qb,Qc,Qd,Qe,Qf,Qg,Qh,Qi,Qj,Qk,Ql,Qm,Qn,Qo,Qp,Qq,Qr,Qs,Qt,Qu,Qv,Qw,Qx,Qy,Qz,Q0,Q1,Q2,Q3,Q4,Q5,Q6,Q7,Q8,Q9,Xa,Xb,Xc,Xd,Xe,Xf,Xg,Xh,Xi,Xj,Xk,Xl,Xm,Xn,Xo,Xp,Xq,Xr,Xs,Xt,Xu,Xv,Xw,Xx,Xy,Xz,X0,X1,X2,X3,X4,X5,X6,X7,X8,X9,Ya,Yb,Yc,Yd,Ye,Yf,Yg,Yh,Yi,Yj,Yk,Yl,Ym,Yn,Yo,Yp,Yq,Yr,Ys,Yt,Yu,Yv,Yw,Yx,Yy,Yz,Y0,Y1,Y2,Y3,Y4,Y5,Y6,Y7,Y8,Y9,Za,Zb,Zc,Zd,Ze,Zf,Zg,Zh,Zi,Zj,Zk,Zl,Zm,Zn,Zo,Zp,Zq,Zr,Zs,Zt,Zu,Zv,Zw,Zx,Zy,Zz,Z0,Z1,Z2,Z3,Z4,Z5,Z6,Z7,Z8,Z9,Ja,Jb,Jc,Jd,Je,Jf,Jg,Jh,Ji,Jj,Jk,Jl,Jm,Jn,Jo,Jp,Jq,Jr,Js,Jt,Ju,Jv,Jw,Jx,Jy,Jz,J0,J1,J2,J3,J4,J5,J6,J7,J8,J9,Ka,Kb,Kc,Kd,Ke,Kf,Kg,Kh,Ki,Kj,Kk,Kl,Km,Kn,Ko,Kp,Kq,Kr,Ks,Kt,Ku,Kv,Kw,Kx,Ky,Kz,K0,K1,K2,K3,K4,K5,K6,K7,K8,K9,Ua,Ub,Uc,Ud,Ue,Uf,Ug,Uh,Ui,Uj,Uk,Ul,Um,Un,Uo,Up,Uq,Ur,Us,Ut,Uu,Uv,Uw,Ux,Uy,Uz,U0,U1,U2,U3,U4,U5,U6,U7,U8,U9,Va,Vb,Vc,Vd,Ve,Vf,Vg,Vh,Vi,Vj,Vk,Vl,Vm,Vn,Vo,Vp,Vq,Vr,Vs,Vt,Vu,Vv,Vw,Vx,Vy,Vz,V0,V1,V2,V3,V4,V5,V6,V7,V8,V9,Wa,Wb,Wc,Wd,We,Wf,Wg,Wh,Wi,Wj,Wk,Wl,Wm,Wn,Wo,Wp,Wq,Wr,Ws,Wt,Wu,Wv,Ww,Wx,Wy,Wz,W0,W1,W2,W3,W4,W5,W6,W7,W8,W9,Ha,Hb,Hc,Hd,He,Hf,Hg,Hh,Hi,Hj,Hk,Hl,Hm,Hn,Ho,Hp,Hq,Hr,Hs,Ht,Hu,Hv,Hw,Hx,Hy,Hz,H0,H1,H2,H3,H4,H5,H6,H7,H8,H9,Na,Nb,Nc,Nd,Ne,Nf,Ng,Nh,Ni,Nj,Nk,Nl,Nm,Nn,No,Np,Nq,Nr,Ns,Nt,Nu,Nv,Nw,Nx,Ny,Nz,N0,N1,N2,N3,N4,N5,N6,N7,N8,N9,Ba,Bb,Bc,Bd,Be,Bf,Bg,Bh,Bi,Bj,Bk,Bl,Bm,Bn,Bo,Bp,Bq,Br,Bs,Bt,Bu,Bv,Bw,Bx,By,Bz,BA,BB,BC,q7R0.eq_1,q7R1.eq_1,q7R2.eq_1,q7R3.eq_1,q7R4.eq_1,q7R6.eq_1,q7R5.eq_1,q7R7.eq_1,c_ref11_Parse.eq_1,k,ol,od,rl])
end Go.Proofs.Ytkkcblfoaldckaa
