/- The document's parser: a control sequence, whole. Conditions: none. -/
import Derived.Test.YtkkcblfoaldckaaVr1
set_option linter.unusedVariables false
set_option linter.unusedSimpArgs false
set_option linter.unusedSectionVars false
set_option maxRecDepth 20000
set_option maxHeartbeats 2000000
namespace Go.Proofs.Ytkkcblfoaldckaa
open Go
variable (G : Nat → Option (List AV)) (z mark : Int) (inter : ByteArray)
theorem csi_loop1 (all : List Int) (hl : all.length ≤ 100000) : ∀ m j, j + m = min all.length 16 → ∀ hx,
    agc 0 [3, 5, 9] ⟨[(3, .ptr 0 0 0 0), (5, .own 1 0 0 all.length all.length), (9, .int .i64 j)], hx⟩ = some ⟨[(3, .ptr 0 0 0 0), (5, .own 1 0 0 all.length all.length), (9, .int .i64 j)], [⟨6, 0, false, [[.int .i64 4, .int .i32 z, .int .i32 mark, .str inter, .own 2 0 0 j j, .data false 1 [] true]]⟩, ⟨1, 0, true, ints all⟩, ⟨1, 0, true, ints (all.take j)⟩]⟩ →
    aE G FT 0 lp_ref11_csi_1 ⟨[(3, .ptr 0 0 0 0), (5, .own 1 0 0 all.length all.length), (9, .int .i64 j)], hx⟩ =
      some (.exit 3, ⟨[(3, .ptr 0 0 0 0), (5, .own 1 0 0 all.length all.length), (9, .int .i64 (min all.length 16 : Nat)), (91, .bool false)], [⟨6, 0, false, [[.int .i64 4, .int .i32 z, .int .i32 mark, .str inter, .own 2 0 0 (min all.length 16) (min all.length 16), .data false 1 [] true]]⟩, ⟨1, 0, true, ints all⟩, ⟨1, 0, true, ints (all.take (min all.length 16))⟩]⟩) := by
  intro m
  have al := ints_len all
  induction m with
  | zero =>
    intro j hj hx hgc
    have hj' : min all.length 16 = j := by omega
    rw [hj', lp_ref11_csi_1, y_loop, hgc]
    by_cases q : (j : Int) < all.length
    · have q2 : ¬ (j : Int) < 16 := by omega
      (sym => simp [Qa,Qc,Qd,Qe,Qf,Qg,Qi,Qj,Qr,Qt,Qu,Qz,Q0,Q2,Q4,Q5,Xa,Xp,Xs,Xy,X0,X5,Ya,Yg,Yk,Yr,Yt,Yv,Yx,Y2,Y9,Za,Zb,Zc,Zd,Ze,Zg,Zh,Zk,Zl,Zm,Zn,Zt,Zv,Zw,Zx,Zy,Zz,Z0,Z1,Z3,Ja,Jj,Jk,Jm,Jn,Jo,Jr,Js,Ju,Jv,J7,Kv,Kx,Ua,Ub,Uc,Ud,Ue,Uf,Ug,Us,Ut,Ux,Uz,U0,U4,U5,U6,U7,Vb,Vd,Ve,Vi,Vj,Vk,Vl,Vm,Vn,Vo,Vp,Vq,Vr,Vs,Vt,Vu,Vv,Vw,Vx,Vy,Vz,V0,Hh,Hi,Hk,Hl,Ho,Hp,Hq,Hs,Hu,Hv,Hw,H0,H1,H2,H3,H4,H5,H6,H8,Ng,Nh,Ni,Nk,Nl,Nm,No,Nq,Nu,Nx,Nz,N2,Be,Bg,q15R0.eq_1,q15R1.eq_1,q15R2.eq_1,q15R3.eq_1,q15R4.eq_1,q15R5.eq_1,q15R6.eq_1,q15R8.eq_1,q15R13.eq_1,q15R14.eq_1,q15R15.eq_1,q15R16.eq_1,q15R17.eq_1,q15R18.eq_1,q15R19.eq_1,q15R20.eq_1,q15R21.eq_1,q15R22.eq_1,q15R9.eq_1,q15R10.eq_1,q15R11.eq_1,q15R12.eq_1,q15R7.eq_1,q15R23.eq_1,q15R24.eq_1,q15R25.eq_1,q15R26.eq_1,q15R27.eq_1,q15R28.eq_1,q15R30.eq_1,q15R29.eq_1,q15R31.eq_1,c_ref11_csi.eq_1,c_ref11_csi_L1.eq_1,al,q,q2])
    · (sym => simp [Qa,Qc,Qd,Qe,Qf,Qg,Qi,Qj,Qr,Qt,Qu,Qz,Q0,Q2,Q4,Q5,Xa,Xp,Xs,Xy,X0,X5,Ya,Yg,Yk,Yr,Yt,Yv,Yx,Y2,Y9,Za,Zb,Zc,Zd,Ze,Zg,Zh,Zk,Zl,Zm,Zn,Zt,Zv,Zw,Zx,Zy,Zz,Z0,Z1,Z3,Ja,Jj,Jk,Jm,Jn,Jo,Jr,Js,Ju,Jv,J7,Kv,Kx,Ua,Ub,Uc,Ud,Ue,Uf,Ug,Us,Ut,Ux,Uz,U0,U4,U5,U6,U7,Vb,Vd,Ve,Vi,Vj,Vk,Vl,Vm,Vn,Vo,Vp,Vq,Vr,Vs,Vt,Vu,Vv,Vw,Vx,Vy,Vz,V0,Hh,Hi,Hk,Hl,Ho,Hp,Hq,Hs,Hu,Hv,Hw,H0,H1,H2,H3,H4,H5,H6,H8,Ng,Nh,Ni,Nk,Nl,Nm,No,Nq,Nu,Nx,Nz,N2,Be,Bg,q15R0.eq_1,q15R1.eq_1,q15R2.eq_1,q15R3.eq_1,q15R4.eq_1,q15R5.eq_1,q15R6.eq_1,q15R8.eq_1,q15R13.eq_1,q15R14.eq_1,q15R15.eq_1,q15R16.eq_1,q15R17.eq_1,q15R18.eq_1,q15R19.eq_1,q15R20.eq_1,q15R21.eq_1,q15R22.eq_1,q15R9.eq_1,q15R10.eq_1,q15R11.eq_1,q15R12.eq_1,q15R7.eq_1,q15R23.eq_1,q15R24.eq_1,q15R25.eq_1,q15R26.eq_1,q15R27.eq_1,q15R28.eq_1,q15R30.eq_1,q15R29.eq_1,q15R31.eq_1,c_ref11_csi.eq_1,c_ref11_csi_L1.eq_1,al,q])
  | succ m ih =>
    intro j hj hx hgc
    have hn : j < all.length := by omega
    have q : (j : Int) < all.length := by omega
    have q2 : (j : Int) < 16 := by omega
    have a1 := ints_at hn
    have hw := wrap_nat (n := j) (by omega)
    have tl : (ints (all.take j)).length = j := by rw [ints_len, List.length_take]; omega
    have tt : (ints (all.take j)).take j = ints (all.take j) := List.take_of_length_le (by rw [tl]; exact Nat.le_refl _)
    have ta : ints (all.take (j + 1)) = ints (all.take j) ++ [[.int .i64 all[j]]] := by rw [List.take_succ_eq_append_getElem hn, ints_append]; rfl
    have hq : (j + 1) * 8 ≤ 140737488355328 := by omega
    have hq1 : ¬ j + 1 ≤ j := by omega
    have ih := ih (j + 1) (by omega) [⟨6, 0, false, [[.int .i64 4, .int .i32 z, .int .i32 mark, .str inter, .own 2 1 0 (j + 1) (j + 1), .data false 1 [] true]]⟩, ⟨1, 0, true, ints all⟩, ⟨1, 1, true, ints (all.take (j + 1))⟩, ⟨1, 0, true, [[.int .i64 all[j]]]⟩] (by
      (sym => simp [Qa,Qc,Qd,Qe,Qf,Qg,Qi,Qj,Qr,Qt,Qu,Qz,Q0,Q2,Q4,Q5,Xa,Xp,Xs,Xy,X0,X5,Ya,Yg,Yk,Yr,Yt,Yv,Yx,Y2,Y9,Za,Zb,Zc,Zd,Ze,Zg,Zh,Zk,Zl,Zm,Zn,Zt,Zv,Zw,Zx,Zy,Zz,Z0,Z1,Z3,Ja,Jj,Jk,Jm,Jn,Jo,Jr,Js,Ju,Jv,J7,Kv,Kx,Ua,Ub,Uc,Ud,Ue,Uf,Ug,Us,Ut,Ux,Uz,U0,U4,U5,U6,U7,Vb,Vd,Ve,Vi,Vj,Vk,Vl,Vm,Vn,Vo,Vp,Vq,Vr,Vs,Vt,Vu,Vv,Vw,Vx,Vy,Vz,V0,Hh,Hi,Hk,Hl,Ho,Hp,Hq,Hs,Hu,Hv,Hw,H0,H1,H2,H3,H4,H5,H6,H8,Ng,Nh,Ni,Nk,Nl,Nm,No,Nq,Nu,Nx,Nz,N2,Be,Bg]))
    rw [lp_ref11_csi_1] at ih
    rw [lp_ref11_csi_1, y_loop, hgc, ← ih, ta]
    (sym => simp [Qa,Qc,Qd,Qe,Qf,Qg,Qi,Qj,Qr,Qt,Qu,Qz,Q0,Q2,Q4,Q5,Xa,Xp,Xs,Xy,X0,X5,Ya,Yg,Yk,Yr,Yt,Yv,Yx,Y2,Y9,Za,Zb,Zc,Zd,Ze,Zg,Zh,Zk,Zl,Zm,Zn,Zt,Zv,Zw,Zx,Zy,Zz,Z0,Z1,Z3,Ja,Jj,Jk,Jm,Jn,Jo,Jr,Js,Ju,Jv,J7,Kv,Kx,Ua,Ub,Uc,Ud,Ue,Uf,Ug,Us,Ut,Ux,Uz,U0,U4,U5,U6,U7,Vb,Vd,Ve,Vi,Vj,Vk,Vl,Vm,Vn,Vo,Vp,Vq,Vr,Vs,Vt,Vu,Vv,Vw,Vx,Vy,Vz,V0,Hh,Hi,Hk,Hl,Ho,Hp,Hq,Hs,Hu,Hv,Hw,H0,H1,H2,H3,H4,H5,H6,H8,Ng,Nh,Ni,Nk,Nl,Nm,No,Nq,Nu,Nx,Nz,N2,Be,Bg,q15R0.eq_1,q15R1.eq_1,q15R2.eq_1,q15R3.eq_1,q15R4.eq_1,q15R5.eq_1,q15R6.eq_1,q15R8.eq_1,q15R13.eq_1,q15R14.eq_1,q15R15.eq_1,q15R16.eq_1,q15R17.eq_1,q15R18.eq_1,q15R19.eq_1,q15R20.eq_1,q15R21.eq_1,q15R22.eq_1,q15R9.eq_1,q15R10.eq_1,q15R11.eq_1,q15R12.eq_1,q15R7.eq_1,q15R23.eq_1,q15R24.eq_1,q15R25.eq_1,q15R26.eq_1,q15R27.eq_1,q15R28.eq_1,q15R30.eq_1,q15R29.eq_1,q15R31.eq_1,c_ref11_csi.eq_1,c_ref11_csi_L1.eq_1,al,q,q2,a1,hw,tl,tt,hq])
/-- The parameters that are told. -/
theorem csi_params (all : List Int) (hl : all.length ≤ 100000) (h0 : all ≠ []) (R : List ARow) (g : Nat) :
    aE G FT 0 lp_ref11_csi_1 ⟨[(3, .ptr 0 0 0 0), (5, .own 1 g 0 all.length all.length), (9, .int .i64 0)], ⟨6, 0, true, [[.int .i64 4, .int .i32 z, .int .i32 mark, .str inter, .data false 1 [] true, .data false 1 [] true]]⟩ :: ⟨1, g, true, ints all⟩ :: R⟩ =
      some (.exit 3, ⟨[(3, .ptr 0 0 0 0), (5, .own 1 0 0 all.length all.length), (9, .int .i64 (min all.length 16 : Nat)), (91, .bool false)], [⟨6, 0, false, [[.int .i64 4, .int .i32 z, .int .i32 mark, .str inter, .own 2 0 0 (min all.length 16) (min all.length 16), .data false 1 [] true]]⟩, ⟨1, 0, true, ints all⟩, ⟨1, 0, true, ints (all.take (min all.length 16))⟩]⟩) := by
  obtain ⟨x, r, rfl⟩ : ∃ x r, all = x :: r := by cases all with
    | nil => exact absurd rfl h0
    | cons x r => exact ⟨x, r, rfl⟩
  have al : (ints (x :: r)).length = r.length + 1 := by rw [ints_len]; rfl
  have l0 : 0 < R.length + 1 + 1 := by omega
  have l1 : 1 < R.length + 1 + 1 := by omega
  have q : (0 : Int) < ((r.length + 1 : Nat) : Int) := by omega
  have gc : agc 0 [3, 5, 9] ⟨[(3, .ptr 0 0 0 0), (5, .own 1 g 0 (x :: r).length (x :: r).length), (9, .int .i64 0)], ⟨6, 0, true, [[.int .i64 4, .int .i32 z, .int .i32 mark, .str inter, .data false 1 [] true, .data false 1 [] true]]⟩ :: ⟨1, g, true, ints (x :: r)⟩ :: R⟩ =
      some ⟨[(3, .ptr 0 0 0 0), (5, .own 1 0 0 (x :: r).length (x :: r).length), (9, .int .i64 0)], [⟨6, 0, true, [[.int .i64 4, .int .i32 z, .int .i32 mark, .str inter, .data false 1 [] true, .data false 1 [] true]]⟩, ⟨1, 0, true, ints (x :: r)⟩]⟩ := by
    (sym => simp [Qc,Qd,Qe,Qf,Qg,Qi,Qj,Qr,Qt,Qu,Qz,Q0,Q2,Q4,Q5,Xa,Xp,Xs,Xy,X0,X5,Ya,Yg,Yk,Yr,Yt,Yv,Yx,Y2,Y9,Za,Zb,Zc,Zd,Ze,Zg,Zh,Zk,Zl,Zm,Zn,Zt,Zv,Zw,Zx,Zy,Zz,Z0,Z1,Z3,Ja,Jj,Jk,Jn,Jo,Jr,Js,Jv,J7,Kw,Kx,Ua,Ub,Uc,Ud,Ue,Uf,Ug,Us,Ut,Ux,Uz,U0,U4,U5,U6,U7,Vb,Vd,Ve,Vi,Vj,Vk,Vl,Vm,Vn,Vo,Vp,Vq,Vr,Vs,Vt,Vu,Vv,Vw,Vx,Vy,Vz,V0,Hh,Hi,Hk,Hl,Ho,Hp,Hq,Hs,Hu,Hv,Hw,H0,H1,H2,H3,H4,H5,H6,Ne,Nl,Nn,No,Nq,Nu,Nx,Nz,Be,Bh,Bi,l0,l1])
  have ih := csi_loop1 G z mark inter (x :: r) hl (min (x :: r).length 16 - 1) 1 (by simp; omega) [⟨6, 0, false, [[.int .i64 4, .int .i32 z, .int .i32 mark, .str inter, .own 3 0 0 1 1, .data false 1 [] true]]⟩, ⟨1, 0, true, ints (x :: r)⟩, ⟨1, 0, true, [[.int .i64 x]]⟩, ⟨1, 0, true, [[.int .i64 x]]⟩] (by
    have e : ints ((x :: r).take 1) = [[.int .i64 x]] := by simp [ints]
    rw [e]
    (sym => simp [Qc,Qd,Qe,Qf,Qg,Qi,Qj,Qr,Qt,Qu,Qz,Q0,Q2,Q4,Q5,Xa,Xp,Xs,Xy,X0,X5,Ya,Yg,Yk,Yr,Yt,Yv,Yx,Y2,Y9,Za,Zb,Zc,Zd,Ze,Zg,Zh,Zk,Zl,Zm,Zn,Zt,Zv,Zw,Zx,Zy,Zz,Z0,Z1,Z3,Ja,Jj,Jk,Jn,Jo,Jr,Js,Jv,J7,Kw,Kx,Ua,Ub,Uc,Ud,Ue,Uf,Ug,Us,Ut,Ux,Uz,U0,U4,U5,U6,U7,Vb,Vd,Ve,Vi,Vj,Vk,Vl,Vm,Vn,Vo,Vp,Vq,Vr,Vs,Vt,Vu,Vv,Vw,Vx,Vy,Vz,V0,Hh,Hi,Hk,Hl,Ho,Hp,Hq,Hs,Hu,Hv,Hw,H0,H1,H2,H3,H4,H5,H6,Ne,Nl,Nn,No,Nq,Nu,Nx,Nz,Be,Bh,Bi]))
  have a1 : (ints (x :: r))[0]? = some [.int .i64 x] := by simp [ints]
  have w0 : IntKind.i64.wrap (0 + 1) = 1 := rfl
  have w1 : IntKind.i64.wrap 1 = 1 := rfl
  simp only [Int.natCast_one, List.length_cons] at ih gc ⊢
  rw [lp_ref11_csi_1] at ih
  rw [lp_ref11_csi_1, y_loop, gc, ← ih]
  (sym => simp [Qc,Qd,Qe,Qf,Qg,Qi,Qj,Qr,Qt,Qu,Qz,Q0,Q2,Q4,Q5,Xa,Xp,Xs,Xy,X0,X5,Ya,Yg,Yk,Yr,Yt,Yv,Yx,Y2,Y9,Za,Zb,Zc,Zd,Ze,Zg,Zh,Zk,Zl,Zm,Zn,Zt,Zv,Zw,Zx,Zy,Zz,Z0,Z1,Z3,Ja,Jj,Jk,Jn,Jo,Jr,Js,Jv,J7,Kw,Kx,Ua,Ub,Uc,Ud,Ue,Uf,Ug,Us,Ut,Ux,Uz,U0,U4,U5,U6,U7,Vb,Vd,Ve,Vi,Vj,Vk,Vl,Vm,Vn,Vo,Vp,Vq,Vr,Vs,Vt,Vu,Vv,Vw,Vx,Vy,Vz,V0,Hh,Hi,Hk,Hl,Ho,Hp,Hq,Hs,Hu,Hv,Hw,H0,H1,H2,H3,H4,H5,H6,Ne,Nl,Nn,No,Nq,Nu,Nx,Nz,Be,Bh,Bi,q15R0.eq_1,q15R1.eq_1,q15R2.eq_1,q15R3.eq_1,q15R4.eq_1,q15R5.eq_1,q15R6.eq_1,q15R8.eq_1,q15R13.eq_1,q15R14.eq_1,q15R15.eq_1,q15R16.eq_1,q15R17.eq_1,q15R18.eq_1,q15R19.eq_1,q15R20.eq_1,q15R21.eq_1,q15R22.eq_1,q15R9.eq_1,q15R10.eq_1,q15R11.eq_1,q15R12.eq_1,q15R7.eq_1,q15R23.eq_1,q15R24.eq_1,q15R25.eq_1,q15R26.eq_1,q15R27.eq_1,q15R28.eq_1,q15R30.eq_1,q15R29.eq_1,q15R31.eq_1,c_ref11_csi.eq_1,c_ref11_csi_L1.eq_1,al,q,a1,w0,w1])
theorem csi_params0 (R : List ARow) :
    aE G FT 0 lp_ref11_csi_1 ⟨[(3, .ptr 0 0 0 0), (5, .own 1 0 0 0 0), (9, .int .i64 0)], ⟨6, 0, true, [[.int .i64 4, .int .i32 z, .int .i32 mark, .str inter, .data false 1 [] true, .data false 1 [] true]]⟩ :: ⟨1, 0, true, []⟩ :: R⟩ =
      some (.exit 3, ⟨[(3, .ptr 0 0 0 0), (5, .own 1 0 0 0 0), (9, .int .i64 0), (91, .bool false)], [⟨6, 0, true, [[.int .i64 4, .int .i32 z, .int .i32 mark, .str inter, .data false 1 [] true, .data false 1 [] true]]⟩, ⟨1, 0, true, []⟩]⟩) := by
  have l0 : 0 < R.length + 1 + 1 := by omega
  have l1 : 1 < R.length + 1 + 1 := by omega
  have gc : agc 0 [3, 5, 9] ⟨[(3, .ptr 0 0 0 0), (5, .own 1 0 0 0 0), (9, .int .i64 0)], ⟨6, 0, true, [[.int .i64 4, .int .i32 z, .int .i32 mark, .str inter, .data false 1 [] true, .data false 1 [] true]]⟩ :: ⟨1, 0, true, []⟩ :: R⟩ =
      some ⟨[(3, .ptr 0 0 0 0), (5, .own 1 0 0 0 0), (9, .int .i64 0)], [⟨6, 0, true, [[.int .i64 4, .int .i32 z, .int .i32 mark, .str inter, .data false 1 [] true, .data false 1 [] true]]⟩, ⟨1, 0, true, []⟩]⟩ := by
    (sym => simp [Qa,Qd,Qe,Qf,Qg,Qi,Qj,Qr,Qt,Qu,Xa,Xy,Ya,Yg,Y9,Za,Zb,Zc,Ze,Zg,Zh,Zk,Zl,Zn,Zt,Zv,Zw,Zx,Zy,Zz,Z0,Z3,Ja,Jj,Jk,Jm,Jr,Ju,Jv,Us,Ut,Ux,U4,U5,U6,U7,Vb,Vk,Vm,Vo,Vp,Vq,Vr,Vs,Vt,Vu,Vv,Vw,Vx,Vy,Vz,V0,Hh,Hi,Hp,Hu,Hv,Hw,H1,H4,H5,H6,Nl,Nm,No,Nu,Nx,Be,Bh,l0,l1])
  rw [lp_ref11_csi_1, y_loop, gc]
  (sym => simp [Qa,Qd,Qe,Qf,Qg,Qi,Qj,Qr,Qt,Qu,Xa,Xy,Ya,Yg,Y9,Za,Zb,Zc,Ze,Zg,Zh,Zk,Zl,Zn,Zt,Zv,Zw,Zx,Zy,Zz,Z0,Z3,Ja,Jj,Jk,Jm,Jr,Ju,Jv,Us,Ut,Ux,U4,U5,U6,U7,Vb,Vk,Vm,Vo,Vp,Vq,Vr,Vs,Vt,Vu,Vv,Vw,Vx,Vy,Vz,V0,Hh,Hi,Hp,Hu,Hv,Hw,H1,H4,H5,H6,Nl,Nm,No,Nu,Nx,Be,Bh,q15R0.eq_1,q15R1.eq_1,q15R2.eq_1,q15R3.eq_1,q15R4.eq_1,q15R5.eq_1,q15R6.eq_1,q15R8.eq_1,q15R13.eq_1,q15R14.eq_1,q15R15.eq_1,q15R16.eq_1,q15R17.eq_1,q15R18.eq_1,q15R19.eq_1,q15R20.eq_1,q15R21.eq_1,q15R22.eq_1,q15R9.eq_1,q15R10.eq_1,q15R11.eq_1,q15R12.eq_1,q15R7.eq_1,q15R23.eq_1,q15R24.eq_1,q15R25.eq_1,q15R26.eq_1,q15R27.eq_1,q15R28.eq_1,q15R30.eq_1,q15R29.eq_1,q15R31.eq_1,c_ref11_csi.eq_1,c_ref11_csi_L1.eq_1])
/-- What a control sequence is told as. -/
def csiT (l : List Int) (z : Int) : List Act' :=
  match csiGo 0 (l.take (l.length - 1)) ⟨0, ⟨#[]⟩, false, [], 0⟩ with
  | none => []
  | some ⟨mark, inter, asked, all, n⟩ => if 2 < inter.size then [] else if asked = true then [csiA z mark inter ((all ++ [n]).take (min (all ++ [n]).length 16)) false] else [csiA z mark inter [] true]
theorem csiGo_all : ∀ (l : List Int) (i : Nat) (mark : Int) (inter : ByteArray) (asked : Bool) (all : List Int) (n : Int) (mark' : Int) (inter' : ByteArray) (asked' : Bool) (all' : List Int) (n' : Int),
    csiGo i l ⟨mark, inter, asked, all, n⟩ = some ⟨mark', inter', asked', all', n'⟩ → (asked = false → all = []) → all'.length ≤ all.length + l.length ∧ inter'.size ≤ inter.size + l.length ∧ (asked' = false → all' = [])
  | [], i, mark, inter, asked, all, n, mark', inter', asked', all', n', h, ha => by cases h; exact ⟨by simp, by simp, ha⟩
  | c :: l, i, mark, inter, asked, all, n, mark', inter', asked', all', n', h, ha => by
    rw [csiGo, csiStep] at h
    have b1 : (byteS c).size = 1 := rfl
    split at h
    · have := csiGo_all l _ _ _ _ _ _ _ _ _ _ _ h ha
      rw [ByteArray.size_append, b1] at this
      rw [List.length_cons]
      exact ⟨by omega, by omega, this.2.2⟩
    split at h
    · have := csiGo_all l _ _ _ _ _ _ _ _ _ _ _ h ha
      rw [List.length_cons]
      exact ⟨by omega, by omega, this.2.2⟩
    split at h
    · cases h
    split at h
    · have := csiGo_all l _ _ _ _ _ _ _ _ _ _ _ h (fun h => by cases h)
      rw [List.length_append, List.length_singleton] at this
      rw [List.length_cons]
      exact ⟨by omega, by omega, this.2.2⟩
    · have := csiGo_all l _ _ _ _ _ _ _ _ _ _ _ h (fun h => by cases h)
      rw [List.length_cons]
      exact ⟨by omega, by omega, this.2.2⟩
theorem csi_P (l : List Int) (bl fl : Bool) (hl : l.length ≤ 10000) (h0 : l ≠ []) (hr : ∀ x ∈ l, x < 1000) (hz : l[l.length - 1]? = some z) : aP G FT n_ref11_csi [.data bl 1 (rn l) fl] = some (.data false 6 (actG (csiT l z)) false) := by
  have rl := rn_len l
  have hp : 0 < l.length := List.length_pos_iff.2 h0
  have wl : IntKind.i64.wrap ((l.length : Int) - 1) = ((l.length - 1 : Nat) : Int) := by rw [wrap_in _ (by omega) (by omega)]; omega
  have a1 : (rn l)[l.length - 1]? = some [.int .i32 z] := by rw [rn, List.getElem?_map, hz]; rfl
  have q0 : ((l.length - 1 : Nat) : Int) < (l.length : Int) := by omega
  obtain ⟨lp1, lp2⟩ := csi_loop0 G z l bl fl (by omega) hr (l.length - 1) 0 (by omega) 0 ⟨#[]⟩ false [] 0 0 [] (by simp [ByteArray.size]) (by simp) (by omega) (by omega)
  rw [List.drop_zero] at lp1 lp2
  simp only [Int.natCast_zero, List.length_nil, ints_nil] at lp1 lp2
  unfold aP csiT
  rw [run_ref11_csi]
  cases e : csiGo 0 (l.take (l.length - 1)) ⟨0, ⟨#[]⟩, false, [], 0⟩ with
  | none =>
    obtain ⟨h, k⟩ := lp1 e
    have ae : actG [] = [] := rfl
    (sym => simp [Qb,Qc,Qd,Qe,Qi,Qj,Qr,Qs,Qt,Qv,Qx,Qy,Qz,Q0,Q1,Q2,Q4,Q5,Xa,Xp,Xs,Xy,X0,X6,Yc,Yh,Yi,Yj,Yk,Yr,Ys,Yt,Yu,Yv,Yy,Y1,Y2,Y5,Y7,Y9,Za,Zb,Zc,Zd,Ze,Zg,Zh,Zi,Zj,Zk,Zl,Zm,Zn,Zr,Zs,Zt,Zu,Zv,Zw,Zx,Zy,Zz,Z0,Z1,Z3,Jj,Jk,Jl,Jn,Jp,Jq,Jr,Jv,Jx,J1,J2,Kv,Kx,K8,K9,Ua,Ub,Uc,Ud,Ue,Uf,Ug,Ui,Ul,Uq,Wg,Hh,Hi,Hk,Hl,Ho,Hp,Hq,Hr,Hs,Ht,Hu,Hv,Hw,H2,H3,H8,Ne,Ng,Nh,Ni,Nk,Nl,Nm,No,Nq,Nx,Nz,N0,N2,Be,Bg,Bj,Bo,Bp,Br,Bt,Bw,Bx,By,Bz,BA,BB,BC,q15R0.eq_1,q15R1.eq_1,q15R2.eq_1,q15R3.eq_1,q15R4.eq_1,q15R5.eq_1,q15R6.eq_1,q15R8.eq_1,q15R13.eq_1,q15R14.eq_1,q15R15.eq_1,q15R16.eq_1,q15R17.eq_1,q15R18.eq_1,q15R19.eq_1,q15R20.eq_1,q15R21.eq_1,q15R22.eq_1,q15R9.eq_1,q15R10.eq_1,q15R11.eq_1,q15R12.eq_1,q15R7.eq_1,q15R23.eq_1,q15R24.eq_1,q15R25.eq_1,q15R26.eq_1,q15R27.eq_1,q15R28.eq_1,q15R30.eq_1,q15R29.eq_1,q15R31.eq_1,c_ref11_csi.eq_1,rl,wl,a1,q0,k,ae])
  | some s =>
    obtain ⟨mark, inter, asked, all, n⟩ := s
    have k := lp2 _ _ _ _ _ e
    obtain ⟨g1, g2, g3⟩ := csiGo_all _ _ _ _ _ _ _ _ _ _ _ _ e (fun _ => rfl)
    have tlen : (l.take (l.length - 1)).length ≤ 10000 := by rw [List.length_take]; omega
    simp only [List.length_nil] at g1
    dsimp only
    by_cases c1 : 2 < inter.size
    · rw [if_pos c1]
      have c1' : (2 : Int) < inter.size := by omega
      have ae : actG [] = [] := rfl
      (sym => simp [Qb,Qc,Qd,Qe,Qi,Qj,Qr,Qs,Qt,Qv,Qx,Qy,Qz,Q0,Q1,Q2,Q4,Q5,Xa,Xp,Xs,Xy,X0,X6,Yc,Yh,Yi,Yj,Yk,Yr,Ys,Yt,Yu,Yv,Yy,Y1,Y2,Y5,Y7,Y9,Za,Zb,Zc,Zd,Ze,Zg,Zh,Zi,Zj,Zk,Zl,Zm,Zn,Zr,Zs,Zt,Zu,Zv,Zw,Zx,Zy,Zz,Z0,Z1,Z3,Jj,Jk,Jl,Jn,Jp,Jq,Jr,Jv,Jx,J1,J2,Kv,Kx,K8,K9,Ua,Ub,Uc,Ud,Ue,Uf,Ug,Ui,Ul,Uq,Wg,Hh,Hi,Hk,Hl,Ho,Hp,Hq,Hr,Hs,Ht,Hu,Hv,Hw,H2,H3,H8,Ne,Ng,Nh,Ni,Nk,Nl,Nm,No,Nq,Nx,Nz,N0,N2,Be,Bg,Bj,Bo,Bp,Br,Bt,Bw,Bx,By,Bz,BA,BB,BC,q15R0.eq_1,q15R1.eq_1,q15R2.eq_1,q15R3.eq_1,q15R4.eq_1,q15R5.eq_1,q15R6.eq_1,q15R8.eq_1,q15R13.eq_1,q15R14.eq_1,q15R15.eq_1,q15R16.eq_1,q15R17.eq_1,q15R18.eq_1,q15R19.eq_1,q15R20.eq_1,q15R21.eq_1,q15R22.eq_1,q15R9.eq_1,q15R10.eq_1,q15R11.eq_1,q15R12.eq_1,q15R7.eq_1,q15R23.eq_1,q15R24.eq_1,q15R25.eq_1,q15R26.eq_1,q15R27.eq_1,q15R28.eq_1,q15R30.eq_1,q15R29.eq_1,q15R31.eq_1,c_ref11_csi.eq_1,rl,wl,a1,q0,k,ae,c1'])
    rw [if_neg c1]
    have c1' : ¬ (2 : Int) < inter.size := by omega
    cases asked with
    | true =>
      rw [if_pos rfl]
      have al := ints_len all
      have at' : (ints all).take all.length = ints all := List.take_of_length_le (by rw [al]; exact Nat.le_refl _)
      have hq : (all.length + 1) * 8 ≤ 140737488355328 := by omega
      have k1 := csi_params G z mark inter (all ++ [n]) (by rw [List.length_append, List.length_singleton]; omega) (by simp) [⟨1, 0, true, [[.int .i64 n]]⟩] 1
      simp only [ints_append, List.length_append, List.length_singleton, ints_one n |>.symm] at k1
      have pl : (ints ((all ++ [n]).take (min (all.length + 1) 16))).length = min (all.length + 1) 16 := by rw [ints_len, List.length_take]; simp
      have pt : (ints ((all ++ [n]).take (min (all.length + 1) 16))).take (min (all.length + 1) 16) = ints ((all ++ [n]).take (min (all.length + 1) 16)) := List.take_of_length_le (by rw [pl]; exact Nat.le_refl _)
      have ae : actG [csiA z mark inter ((all ++ [n]).take (min (all.length + 1) 16)) false] = [[.int .i64 4, .int .i32 z, .int .i32 mark, .str inter, .data false 1 (ints ((all ++ [n]).take (min (all.length + 1) 16))) false, .data false 1 [] true]] := rfl
      rw [List.length_append, List.length_singleton, ae]
      (sym => simp [Qb,Qc,Qd,Qe,Qi,Qj,Qr,Qs,Qt,Qv,Qx,Qy,Qz,Q0,Q1,Q2,Q4,Q5,Xa,Xp,Xs,Xy,X0,X6,Yc,Yh,Yi,Yj,Yk,Yr,Ys,Yt,Yu,Yv,Yy,Y1,Y2,Y5,Y7,Y9,Za,Zb,Zc,Zd,Ze,Zg,Zh,Zi,Zj,Zk,Zl,Zm,Zn,Zr,Zs,Zt,Zu,Zv,Zw,Zx,Zy,Zz,Z0,Z1,Z3,Jj,Jk,Jl,Jn,Jp,Jq,Jr,Jv,Jx,J1,J2,Kv,Kx,K8,K9,Ua,Ub,Uc,Ud,Ue,Uf,Ug,Ui,Ul,Uq,Wg,Hh,Hi,Hk,Hl,Ho,Hp,Hq,Hr,Hs,Ht,Hu,Hv,Hw,H2,H3,H8,Ne,Ng,Nh,Ni,Nk,Nl,Nm,No,Nq,Nx,Nz,N0,N2,Be,Bg,Bj,Bo,Bp,Br,Bt,Bw,Bx,By,Bz,BA,BB,BC,q15R0.eq_1,q15R1.eq_1,q15R2.eq_1,q15R3.eq_1,q15R4.eq_1,q15R5.eq_1,q15R6.eq_1,q15R8.eq_1,q15R13.eq_1,q15R14.eq_1,q15R15.eq_1,q15R16.eq_1,q15R17.eq_1,q15R18.eq_1,q15R19.eq_1,q15R20.eq_1,q15R21.eq_1,q15R22.eq_1,q15R9.eq_1,q15R10.eq_1,q15R11.eq_1,q15R12.eq_1,q15R7.eq_1,q15R23.eq_1,q15R24.eq_1,q15R25.eq_1,q15R26.eq_1,q15R27.eq_1,q15R28.eq_1,q15R30.eq_1,q15R29.eq_1,q15R31.eq_1,c_ref11_csi.eq_1,rl,wl,a1,q0,k,c1',al,at',hq,k1,pl,pt])
    | false =>
      rw [if_neg (by simp)]
      obtain rfl := g3 rfl
      have k1 := csi_params0 G z mark inter
      have ae : actG [csiA z mark inter [] true] = [[.int .i64 4, .int .i32 z, .int .i32 mark, .str inter, .data false 1 [] true, .data false 1 [] true]] := rfl
      rw [ae]
      simp only [List.length_nil, ints_nil] at k
      (sym => simp [Qb,Qc,Qd,Qe,Qi,Qj,Qr,Qs,Qt,Qv,Qx,Qy,Qz,Q0,Q1,Q2,Q4,Q5,Xa,Xp,Xs,Xy,X0,X6,Yc,Yh,Yi,Yj,Yk,Yr,Ys,Yt,Yu,Yv,Yy,Y1,Y2,Y5,Y7,Y9,Za,Zb,Zc,Zd,Ze,Zg,Zh,Zi,Zj,Zk,Zl,Zm,Zn,Zr,Zs,Zt,Zu,Zv,Zw,Zx,Zy,Zz,Z0,Z1,Z3,Jj,Jk,Jl,Jn,Jp,Jq,Jr,Jv,Jx,J1,J2,Kv,Kx,K8,K9,Ua,Ub,Uc,Ud,Ue,Uf,Ug,Ui,Ul,Uq,Wg,Hh,Hi,Hk,Hl,Ho,Hp,Hq,Hr,Hs,Ht,Hu,Hv,Hw,H2,H3,H8,Ne,Ng,Nh,Ni,Nk,Nl,Nm,No,Nq,Nx,Nz,N0,N2,Be,Bg,Bj,Bo,Bp,Br,Bt,Bw,Bx,By,Bz,BA,BB,BC,q15R0.eq_1,q15R1.eq_1,q15R2.eq_1,q15R3.eq_1,q15R4.eq_1,q15R5.eq_1,q15R6.eq_1,q15R8.eq_1,q15R13.eq_1,q15R14.eq_1,q15R15.eq_1,q15R16.eq_1,q15R17.eq_1,q15R18.eq_1,q15R19.eq_1,q15R20.eq_1,q15R21.eq_1,q15R22.eq_1,q15R9.eq_1,q15R10.eq_1,q15R11.eq_1,q15R12.eq_1,q15R7.eq_1,q15R23.eq_1,q15R24.eq_1,q15R25.eq_1,q15R26.eq_1,q15R27.eq_1,q15R28.eq_1,q15R30.eq_1,q15R29.eq_1,q15R31.eq_1,c_ref11_csi.eq_1,rl,wl,a1,q0,k,c1',k1])
end Go.Proofs.Ytkkcblfoaldckaa
