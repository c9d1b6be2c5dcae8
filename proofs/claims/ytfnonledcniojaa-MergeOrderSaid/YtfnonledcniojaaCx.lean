/- Entries told outright: slices.Clone, bytes.Clone. Of nothing: by hand; of something: by the small machine. Conditions: none. -/
import Derived.Test.YtfnonledcniojaaCj
import Derived.Test.YtfnonledcniojaaM3
import Derived.Test.YtfnonledcniojaaChecked
import Derived.WalkKit
import Derived.WalkSpells
import Derived.WalkLawsBesides
import Derived.Deep.QuietTactic
import Derived.BigQuiet
import Derived.Lib.Hide
set_option linter.unusedVariables false
set_option linter.unusedSimpArgs false
set_option linter.unusedSectionVars false
namespace Go.Proofs.Ytfnonledcniojaa
open Go Go.RowKit
theorem nil_eq0 {P : Program} (d : Nat) {t e : TypeId} (hu : P.underlying t = some (.slice e)) (c c' : Nat) (w : World) : (Op.equalIn (d + 1) t (.slice none 0 c) (.slice none 0 c')).run P w = .ok true w := by simp [Op.equalIn, run_underlying hu]
theorem nil_eq {P : Program} {t e : TypeId} (hu : P.underlying t = some (.slice e)) (c c' : Nat) (w : World) : (binOp .eql t (.slice none 0 c) (.slice none 0 c')).run P w = .ok (.bool true) w := by
  have : (Op.equal t (.slice none 0 c) (.slice none 0 c')).run P w = .ok true w := nil_eq0 9999 hu c c' w
  rw [binOp_eql (.inr (.inr (.inr ⟨_, _, _, rfl⟩))), Sem.run_bind, this]
  simp
theorem nil_ne {P : Program} {t e : TypeId} (hu : P.underlying t = some (.slice e)) (ad : Addr) (l c c' : Nat) (w : World) : (binOp .eql t (.slice (some ad) l c) (.slice none 0 c')).run P w = .ok (.bool false) w := by
  have : (Op.equal t (.slice (some ad) l c) (.slice none 0 c')).run P w = .ok false w := eqn7 9999 w hu _ _ _ _ _
  rw [binOp_eql (.inr (.inr (.inr ⟨_, _, _, rfl⟩))), Sem.run_bind, this]
  simp
theorem oneF_ok {P : Program} (G : Nat → Option (List AV)) {n : Nat} {a : AFn} (hc : chkFn P n a = true) : EntOk P G (oneF n a) := by
  intro f ent hf
  unfold oneF at hf
  split at hf
  · rename_i e; cases hf; subst e; exact hc
  · cases hf
/-- An entry that makes an empty slice. -/
theorem ext_empty {P : Program} {f k : Nat} {xs : Array Value} {w : World} {ρ : Rho} {S O : Nat → Prop} (H : Heap ρ w S O []) {v : Value} {w1 : World} (hc : Calls P f xs w fun e w' => e = .returned v ∧ w' = w1)
    (hw : w1 = w ∨ ∃ arr ty, w1 = w.alloc (.cells arr ty)) (hv : ∃ a, v = .slice a 0 0) : Calls P f xs w fun e w' => ∃ x, e = .returned x ∧ ResW ρ w S O [] (.own 0 1 0 0 0) [⟨k, 1, true, []⟩] x w' := by
  obtain ⟨a, rfl⟩ := hv
  refine Calls.mono hc fun e w' h => ?_
  obtain ⟨rfl, rfl⟩ := h
  have hA : AdvW w O w' O := by
    rcases hw with rfl | ⟨arr, ty, rfl⟩
    · exact .refl _ O
    · exact .alloc' w O _
  have H2 : Heap ρ w' S O [] := ⟨fun id g pl hid => by obtain ⟨r, hr, _⟩ := H.row id g pl hid; simp at hr, H.inj, fun b hb => Nat.lt_of_lt_of_le (H.bd b hb) hA.size, H.dis⟩
  exact ⟨_, rfl, upd ρ 0 (1, none), O, hA.x, ext_upd ρ _ (H.none_ge (Nat.le_refl _)), H2.virtual ⟨k, 1, true, []⟩ rfl, .own _ 1 1 none 0 0 0 a 0 (upd_same ρ _ _) (Nat.le_refl _) (Nat.le_refl _) (Nat.le_refl _) (fun h => by omega) (fun _ => .inl rfl), fun id h => by simp at h⟩

set_option maxRecDepth 100000 in
set_option maxHeartbeats 400000 in
theorem nil_bytes_Clone (cap : Nat) (w : World) :
    Calls Try.prog 83 #[.slice none 0 cap] w fun e w' => e = .returned (.slice none 0 0) ∧ w' = w := by
  have h1 := nil_eq (P := Try.prog) (t := 23) (e := 5) (by kernel_rfl) cap 0
  go_enter Try.func83, Try.ntmps83
  go_wp2
  all_goals (go_ret; exact ⟨rfl, rfl⟩)
set_option maxRecDepth 100000 in
set_option maxHeartbeats 400000 in
theorem emp_bytes_Clone (ad : Addr) (cap : Nat) (w : World) :
    Calls Try.prog 83 #[.slice (some ad) 0 cap] w fun e w' => e = .returned (.slice (some ⟨w.heap.size, 0, none⟩) 0 0) ∧ w' = w.alloc (.cells #[] 5) := by
  have h1 := nil_ne (P := Try.prog) (t := 23) (e := 5) (by kernel_rfl) ad 0 cap 0
  go_enter Try.func83, Try.ntmps83
  go_wp2
  all_goals (go_ret; exact ⟨rfl, rfl⟩)
theorem some_bytes_Clone (G : Nat → Option (List AV)) (l : List (List AV)) (b f : Bool) (hl : l.length ≤ 1000000) (hne : l ≠ []) : aR G (oneF 83 c_bytes_Clone) 83 [.data b 1 l f] [] = some (.own 0 1 0 l.length l.length, [⟨1, 1, true, l⟩]) := by
  cases l with
  | nil => exact absurd rfl hne
  | cons x l =>
    have hb : l.length + 1 ≤ 140737488355328 := by simp at hl; omega
    rw [y_fn G (oneF 83 c_bytes_Clone) (fn := c_bytes_Clone) rfl]
    (sym => simp [Qa,Qb,Qc,Qd,Qe,Qf,Qg,Qh,Qi,Qj,Qk,Ql,Qm,Qn,Qo,Qp,Qq,Qr,Qs,Qt,Qu,Qv,Qw,Qx,Qy,Qz,Q0,Q1,Q2,Q3,Q4,Q5,Q6,Q7,Q8,Q9,Xa,Xb,Xc,Xd,Xe,Xf,Xg,Xh,Xi,Xj,Xk,Xl,Xm,Xn,Xo,Xp,Xq,Xr,Xs,Xt,Xu,Xv,Xw,Xx,Xy,Xz,X0,X1,X2,X3,X4,X5,X6,X7,X8,X9,Ya,Yb,Yc,Yd,Ye,Yf,Yg,Yh,Yi,Yj,Yk,Yl,Ym,Yn,Yo,Yp,Yq,Yr,Ys,Yt,Yu,Yv,Yw,Yx,Yy,Yz,Y0,Y1,Y2,Y3,Y4,Y5,Y6,Y7,Y8,Y9,Za,Zb,Zc,Zd,Ze,Zf,Zg,Zh,Zi,Zj,Zk,Zl,Zm,Zn,Zo,Zp,Zq,Zr,Zs,Zt,Zu,Zv,Zw,Zx,Zy,Zz,Z0,Z1,Z2,Z3,Z4,Z5,Z6,Z7,Z8,Z9,Ja,Jb,Jc,Jd,Je,Jf,Jg,Jh,Ji,Jj,Jk,Jl,Jm,Jn,Jo,Jp,Jq,Jr,Js,Jt,Ju,Jv,Jw,Jx,Jy,Jz,J0,J1,J2,J3,J4,J5,J6,J7,J8,J9,Ka,Kb,Kc,Kd,Ke,Kf,Kg,Kh,Ki,Kj,Kk,Kl,Km,Kn,Ko,Kp,Kq,Kr,Ks,Kt,Ku,Kv,Kw,Kx,Ky,Kz,K0,K1,K2,K3,K4,K5,K6,K7,K8,K9,Ua,Ub,Uc,Ud,Ue,Uf,Ug,Uh,Ui,Uj,Uk,Ul,Um,Un,Uo,Up,Uq,Ur,Us,Ut,Uu,Uv,Uw,Ux,Uy,Uz,U0,U1,U2,U3,U4,U5,U6,U7,U8,U9,Va,Vb,Vc,Vd,Ve,Vf,Vg,Vh,Vi,Vj,Vk,Vl,Vm,Vn,Vo,Vp,Vq,Vr,Vs,Vt,Vu,Vv,Vw,Vx,Vy,Vz,V0,V1,V2,V3,V4,V5,V6,V7,V8,V9,Wa,Wb,Wc,Wd,We,Wf,Wg,Wh,Wi,Wj,Wk,Wl,Wm,Wn,Wo,Wp,Wq,Wr,Ws,Wt,Wu,Wv,Ww,Wx,Wy,Wz,W0,W1,W2,W3,W4,W5,W6,W7,W8,W9,Ha,Hb,Hc,Hd,He,Hf,Hg,Hh,Hi,Hj,Hk,Hl,Hm,Hn,Ho,Hp,Hq,Hr,Hs,Ht,Hu,Hv,Hw,Hx,Hy,Hz,H0,H1,H2,H3,H4,H5,H6,H7,H8,H9,Na,Nb,Nc,Nd,Ne,Nf,Ng,Nh,Ni,Nj,Nk,Nl,Nm,Nn,No,Np,Nq,Nr,Ns,Nt,Nu,Nv,Nw,Nx,Ny,Nz,N0,N1,N2,N3,N4,N5,N6,N7,N8,N9,Ba,Bb,Bc,Bd,Be,Bf,Bg,Bh,Bi,Bj,Bk,Bl,Bm,Bn,Bo,Bp,Bq,Br,Bs,Bt,Bu,Bv,Bw,Bx,By,Bz,BA,BB,BC,BD,BE,BF,BG,BH,BI,BJ,BK,BL,BM,BN,BO,BP,BQ,BR,BS,BT,BU,BV,BW,BX,BY,BZ,Ca,Cb,q0R0.eq_1,q0R1.eq_1,q0R2.eq_1,q0R3.eq_1,c_bytes_Clone.eq_1,hb])
theorem ext_bytes_Clone (G : Nat → Option (List AV)) : ∀ args h v h', extClone 1 args h = some (v, h') → KeepK h h' ∧ (∃ fn, (Try.prog).funcs[83]? = some fn ∧ fn.name ≠ "runtime.NumGoroutine" ∧ fn.body.isSome = true) ∧
    ∀ (ρ : Rho) (w : World) (S O : Nat → Prop) (xs : List Value), Heap ρ w S O h → (∀ g cs, G g = some cs → RepV ρ w S O (.dptr cs) (.pointer (some ⟨g, 0, none⟩))) → RepL (RepV ρ w S O) args xs →
      Calls Try.prog 83 xs.toArray w fun e w' => ∃ x, e = .returned x ∧ ResW ρ w S O h v h' x w' := by
  intro args h v h' he
  have K := aR_ok mixFT (oneF_ok G chk_bytes_Clone)
  have any := K 83 [.data true 1 [[]] false] [] _ _ (some_bytes_Clone G _ _ _ (by simp) (by simp))
  unfold extClone at he
  split at he
  case h_2 => cases he
  rename_i b k' es f
  refine ⟨fun id x hx => by simp at hx, any.1, fun ρ w S O xs H hG hargs => ?_⟩
  split at he
  case isFalse => cases he
  rename_i hc
  cases he
  obtain ⟨rfl, hl⟩ := hc
  cases xs with
  | nil => have := hargs.1; simp at this
  | cons x xs =>
    obtain ⟨hx, hr⟩ := hargs.uncons
    have : xs = [] := List.eq_nil_of_length_eq_zero (by have := hr.1; simpa using this.symm)
    subst this
    cases es with
    | nil =>
      obtain ⟨a, cap, rfl, _⟩ := rv_data hx
      cases a with
      | none => exact ext_empty H (nil_bytes_Clone cap w) (.inl rfl) ⟨_, rfl⟩
      | some ad => exact ext_empty H (emp_bytes_Clone ad cap w) (.inr ⟨_, _, rfl⟩) ⟨_, rfl⟩
    | cons e es => exact (K 83 _ [] _ _ (some_bytes_Clone G (e :: es) b f hl (by simp))).2 ρ w S O [x] H hG hargs
end Go.Proofs.Ytfnonledcniojaa
