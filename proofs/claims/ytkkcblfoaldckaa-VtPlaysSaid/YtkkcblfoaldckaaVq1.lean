/- The document's parser at row 0, nothing else there (printed by gen/fam2.py). Conditions: none. -/
import Derived.Test.YtkkcblfoaldckaaVrB
set_option linter.unusedVariables false
set_option linter.unusedSimpArgs false
set_option linter.unusedSectionVars false
set_option maxRecDepth 20000
set_option maxHeartbeats 4000000
namespace Go.Proofs.Ytkkcblfoaldckaa
open Go
section
variable (G : Nat → Option (List AV)) (fl : Bool)
theorem stringed_2q (H : List Int) (d : Int) (h1 : 2 ≤ H.length) (h2 : H.length ≤ 100000) (hd : H[1]? = some d) (R : List ARow) : aR G FT n_ref11_Parser_stringed [.ptr 0 0 0 0] (⟨1, 0, fl, [[.own 1 0 0 H.length H.length]]⟩ :: ⟨1, 0, true, rn H⟩ :: R) =
    some (.tup [.bool (isStr d), .bool (decide (d = 93))], ⟨1, 0, fl, [[.own 1 0 0 H.length H.length]]⟩ :: ⟨1, 0, true, rn H⟩ :: R) := by
  rw [run_ref11_Parser_stringed]
  have rl := rn_len H
  have q1 : ¬ (H.length : Int) < 2 := by omega
  have q2 : (1 : Int) < H.length := by omega
  have a1 : (rn H)[1]? = some [.int .i32 d] := by rw [rn, List.getElem?_map, hd]; rfl
  unfold isStr
  by_cases c1 : d = 93
  · (sym => simp [Qb,Qc,Qd,Qe,Qf,Qg,Qi,Qj,Qr,Qt,Qu,Q4,Q6,Q9,Xa,Xp,Xs,Xy,X8,Ya,Yg,Yr,Yt,Yv,Yx,Y1,Y6,Y7,Y9,Za,Zb,Zc,Ze,Zg,Zh,Zi,Zj,Zk,Zl,Zn,Zr,Zs,Zt,Zu,Zv,Zw,Zx,Zy,Z0,Z3,Jb,Jj,Jk,Jr,Jv,Jx,Hh,Hi,Nl,Nm,Ns,Nu,Nw,Nx,Nz,Be,Bi,q12R0.eq_1,q12R1.eq_1,q12R2.eq_1,q12R3.eq_1,q12R4.eq_1,c_ref11_Parser_stringed.eq_1,rl,q1,q2,a1,c1])
  by_cases c2 : d = 80
  · (sym => simp [Qb,Qc,Qd,Qe,Qf,Qg,Qi,Qj,Qr,Qt,Qu,Q4,Q6,Q9,Xa,Xp,Xs,Xy,X8,Ya,Yg,Yr,Yt,Yv,Yx,Y1,Y6,Y7,Y9,Za,Zb,Zc,Ze,Zg,Zh,Zi,Zj,Zk,Zl,Zn,Zr,Zs,Zt,Zu,Zv,Zw,Zx,Zy,Z0,Z3,Jb,Jj,Jk,Jr,Jv,Jx,Hh,Hi,Nl,Nm,Ns,Nu,Nw,Nx,Nz,Be,Bi,q12R0.eq_1,q12R1.eq_1,q12R2.eq_1,q12R3.eq_1,q12R4.eq_1,c_ref11_Parser_stringed.eq_1,rl,q1,q2,a1,c1,c2])
  by_cases c3 : d = 88
  · (sym => simp [Qb,Qc,Qd,Qe,Qf,Qg,Qi,Qj,Qr,Qt,Qu,Q4,Q6,Q9,Xa,Xp,Xs,Xy,X8,Ya,Yg,Yr,Yt,Yv,Yx,Y1,Y6,Y7,Y9,Za,Zb,Zc,Ze,Zg,Zh,Zi,Zj,Zk,Zl,Zn,Zr,Zs,Zt,Zu,Zv,Zw,Zx,Zy,Z0,Z3,Jb,Jj,Jk,Jr,Jv,Jx,Hh,Hi,Nl,Nm,Ns,Nu,Nw,Nx,Nz,Be,Bi,q12R0.eq_1,q12R1.eq_1,q12R2.eq_1,q12R3.eq_1,q12R4.eq_1,c_ref11_Parser_stringed.eq_1,rl,q1,q2,a1,c1,c2,c3])
  by_cases c4 : d = 94
  · (sym => simp [Qb,Qc,Qd,Qe,Qf,Qg,Qi,Qj,Qr,Qt,Qu,Q4,Q6,Q9,Xa,Xp,Xs,Xy,X8,Ya,Yg,Yr,Yt,Yv,Yx,Y1,Y6,Y7,Y9,Za,Zb,Zc,Ze,Zg,Zh,Zi,Zj,Zk,Zl,Zn,Zr,Zs,Zt,Zu,Zv,Zw,Zx,Zy,Z0,Z3,Jb,Jj,Jk,Jr,Jv,Jx,Hh,Hi,Nl,Nm,Ns,Nu,Nw,Nx,Nz,Be,Bi,q12R0.eq_1,q12R1.eq_1,q12R2.eq_1,q12R3.eq_1,q12R4.eq_1,c_ref11_Parser_stringed.eq_1,rl,q1,q2,a1,c1,c2,c3,c4])
  by_cases c5 : d = 95
  · (sym => simp [Qb,Qc,Qd,Qe,Qf,Qg,Qi,Qj,Qr,Qt,Qu,Q4,Q6,Q9,Xa,Xp,Xs,Xy,X8,Ya,Yg,Yr,Yt,Yv,Yx,Y1,Y6,Y7,Y9,Za,Zb,Zc,Ze,Zg,Zh,Zi,Zj,Zk,Zl,Zn,Zr,Zs,Zt,Zu,Zv,Zw,Zx,Zy,Z0,Z3,Jb,Jj,Jk,Jr,Jv,Jx,Hh,Hi,Nl,Nm,Ns,Nu,Nw,Nx,Nz,Be,Bi,q12R0.eq_1,q12R1.eq_1,q12R2.eq_1,q12R3.eq_1,q12R4.eq_1,c_ref11_Parser_stringed.eq_1,rl,q1,q2,a1,c1,c2,c3,c4,c5])
  · (sym => simp [Qb,Qc,Qd,Qe,Qf,Qg,Qi,Qj,Qr,Qt,Qu,Q4,Q6,Q9,Xa,Xp,Xs,Xy,X8,Ya,Yg,Yr,Yt,Yv,Yx,Y1,Y6,Y7,Y9,Za,Zb,Zc,Ze,Zg,Zh,Zi,Zj,Zk,Zl,Zn,Zr,Zs,Zt,Zu,Zv,Zw,Zx,Zy,Z0,Z3,Jb,Jj,Jk,Jr,Jv,Jx,Hh,Hi,Nl,Nm,Ns,Nu,Nw,Nx,Nz,Be,Bi,q12R0.eq_1,q12R1.eq_1,q12R2.eq_1,q12R3.eq_1,q12R4.eq_1,c_ref11_Parser_stringed.eq_1,rl,q1,q2,a1,c1,c2,c3,c4,c5])
theorem stringed_1q (R : List ARow) (x : AV) : aR G FT n_ref11_Parser_stringed [.ptr 0 0 0 0] (⟨1, 0, fl, [[.own 1 0 0 1 1]]⟩ :: ⟨1, 0, true, [[x]]⟩ :: R) =
    some (.tup [.bool false, .bool false], ⟨1, 0, fl, [[.own 1 0 0 1 1]]⟩ :: ⟨1, 0, true, [[x]]⟩ :: R) := by
  rw [run_ref11_Parser_stringed]
  (sym => simp [Qb,Qd,Qe,Qi,Qj,Qr,Qt,Q4,Q6,Q9,Xa,Xp,Xy,Ya,Yg,Yr,Yt,Yv,Y1,Y6,Y7,Y9,Za,Zb,Zc,Ze,Zg,Zh,Zi,Zj,Zk,Zl,Zn,Zr,Zs,Zt,Zu,Zv,Zw,Zy,Z0,Jj,Jk,Jl,Jr,Jv,Jx,Hh,Nl,Be,Bh,q12R0.eq_1,q12R1.eq_1,q12R2.eq_1,q12R3.eq_1,q12R4.eq_1,c_ref11_Parser_stringed.eq_1])
theorem stringed_0q (R : List ARow) : aR G FT n_ref11_Parser_stringed [.ptr 0 0 0 0] (⟨1, 0, fl, [[.data false 1 [] true]]⟩ :: R) =
    some (.tup [.bool false, .bool false], ⟨1, 0, fl, [[.data false 1 [] true]]⟩ :: R) := by
  rw [run_ref11_Parser_stringed]
  (sym => simp [Qb,Qd,Qe,Qi,Qj,Qr,Qt,Q4,Q6,Q9,Xa,Xp,Xy,Ya,Yh,Yr,Yt,Yv,Y1,Y6,Y7,Y9,Za,Zb,Zc,Ze,Zg,Zh,Zi,Zj,Zk,Zl,Zm,Zn,Zr,Zs,Zt,Zu,Zv,Zw,Zy,Z0,Jj,Jk,Jl,Jr,Jv,Jx,Hh,Nl,Be,Bh,q12R0.eq_1,q12R1.eq_1,q12R2.eq_1,q12R3.eq_1,q12R4.eq_1,c_ref11_Parser_stringed.eq_1])
theorem told_loopq (H : List Int) (h2 : H.length ≤ 100000) : ∀ m j, j + m = min H.length 66 → 2 ≤ j → ∀ (g' : Nat) (R : List ARow),
    aE G FT 2 lp_ref11_Parser_told_0 ⟨[(0, .ptr 0 0 0 0), (5, .own 2 g' 0 (j - 2) (j - 2)), (6, .int .i64 j)], ⟨1, 0, false, [[.own 1 0 0 H.length H.length]]⟩ :: ⟨1, 0, true, rn H⟩ :: ⟨1, g', true, rn ((H.take j).drop 2)⟩ :: R⟩ =
      some (.exit 0, ⟨[(0, .ptr 0 0 0 0), (5, .own 2 0 0 (min H.length 66 - 2) (min H.length 66 - 2)), (6, .int .i64 (min H.length 66 : Nat)), (24, .bool false)], [⟨1, 0, false, [[.own 1 0 0 H.length H.length]]⟩, ⟨1, 0, true, rn H⟩, ⟨1, 0, true, rn ((H.take (min H.length 66)).drop 2)⟩]⟩) := by
  intro m
  have rl := rn_len H
  have gc : ∀ (j : Int) (n g' : Nat) (ts : List (List AV)) (R : List ARow), agc 2 [0, 5, 6] ⟨[(0, .ptr 0 0 0 0), (5, .own 2 g' 0 n n), (6, .int .i64 j)], ⟨1, 0, false, [[.own 1 0 0 H.length H.length]]⟩ :: ⟨1, 0, true, rn H⟩ :: ⟨1, g', true, ts⟩ :: R⟩ =
      some ⟨[(0, .ptr 0 0 0 0), (5, .own 2 0 0 n n), (6, .int .i64 j)], [⟨1, 0, false, [[.own 1 0 0 H.length H.length]]⟩, ⟨1, 0, true, rn H⟩, ⟨1, 0, true, ts⟩]⟩ := fun j n g' ts R => by
    have l0 : 2 < R.length + 1 + 1 + 1 := by omega
    (sym => simp [Qa,Qc,Qd,Qe,Qf,Qg,Qi,Qj,Qr,Qt,Qu,Qz,Q0,Q2,Q4,Q6,Q9,Xa,Xp,Xs,Xy,X0,X5,Ya,Yg,Yk,Yr,Yt,Yv,Yx,Y2,Y9,Za,Zb,Zc,Ze,Zg,Zh,Zk,Zl,Zm,Zn,Zt,Zv,Zw,Zx,Zy,Zz,Z0,Z3,Ja,Jj,Jk,Jm,Jn,Jo,Jr,Js,Ju,Jv,Kv,Kx,Ua,Ub,Uc,Ud,Ue,Uf,Ug,Us,Ut,Ux,U4,U5,U6,U7,Vb,Vi,Vj,Vk,Vl,Vm,Vn,Vo,Vp,Vq,Vr,Vs,Vt,Vu,Vv,Vw,Vx,Vy,Vz,V0,Hh,Hi,Hk,Hl,Ho,Hp,Hq,Hs,Hu,Hv,Hw,H0,H1,H2,H3,H5,H6,H8,Ng,Nh,Ni,Nk,Nl,Nm,No,Nx,Nz,N2,Be,Bg,l0])
  induction m with
  | zero =>
    intro j hj hj2 g' R
    have hj' : min H.length 66 = j := by omega
    rw [hj', lp_ref11_Parser_told_0, y_loop, gc]
    by_cases q : (j : Int) < H.length
    · have q2 : ¬ (j : Int) < 66 := by omega
      (sym => simp [Qa,Qc,Qd,Qe,Qf,Qg,Qi,Qj,Qr,Qt,Qu,Qz,Q0,Q2,Q4,Q6,Q9,Xa,Xp,Xs,Xy,X0,X5,Ya,Yg,Yk,Yr,Yt,Yv,Yx,Y2,Y9,Za,Zb,Zc,Ze,Zg,Zh,Zk,Zl,Zm,Zn,Zt,Zv,Zw,Zx,Zy,Zz,Z0,Z3,Ja,Jj,Jk,Jm,Jn,Jo,Jr,Js,Ju,Jv,Kv,Kx,Ua,Ub,Uc,Ud,Ue,Uf,Ug,Us,Ut,Ux,U4,U5,U6,U7,Vb,Vi,Vj,Vk,Vl,Vm,Vn,Vo,Vp,Vq,Vr,Vs,Vt,Vu,Vv,Vw,Vx,Vy,Vz,V0,Hh,Hi,Hk,Hl,Ho,Hp,Hq,Hs,Hu,Hv,Hw,H0,H1,H2,H3,H5,H6,H8,Ng,Nh,Ni,Nk,Nl,Nm,No,Nx,Nz,N2,Be,Bg,q13R0.eq_1,q13R1.eq_1,q13R2.eq_1,q13R3.eq_1,q13R4.eq_1,q13R5.eq_1,q13R6.eq_1,q13R8.eq_1,q13R7.eq_1,q13R9.eq_1,c_ref11_Parser_told.eq_1,c_ref11_Parser_told_L0.eq_1,rl,q,q2])
    · (sym => simp [Qa,Qc,Qd,Qe,Qf,Qg,Qi,Qj,Qr,Qt,Qu,Qz,Q0,Q2,Q4,Q6,Q9,Xa,Xp,Xs,Xy,X0,X5,Ya,Yg,Yk,Yr,Yt,Yv,Yx,Y2,Y9,Za,Zb,Zc,Ze,Zg,Zh,Zk,Zl,Zm,Zn,Zt,Zv,Zw,Zx,Zy,Zz,Z0,Z3,Ja,Jj,Jk,Jm,Jn,Jo,Jr,Js,Ju,Jv,Kv,Kx,Ua,Ub,Uc,Ud,Ue,Uf,Ug,Us,Ut,Ux,U4,U5,U6,U7,Vb,Vi,Vj,Vk,Vl,Vm,Vn,Vo,Vp,Vq,Vr,Vs,Vt,Vu,Vv,Vw,Vx,Vy,Vz,V0,Hh,Hi,Hk,Hl,Ho,Hp,Hq,Hs,Hu,Hv,Hw,H0,H1,H2,H3,H5,H6,H8,Ng,Nh,Ni,Nk,Nl,Nm,No,Nx,Nz,N2,Be,Bg,q13R0.eq_1,q13R1.eq_1,q13R2.eq_1,q13R3.eq_1,q13R4.eq_1,q13R5.eq_1,q13R6.eq_1,q13R8.eq_1,q13R7.eq_1,q13R9.eq_1,c_ref11_Parser_told.eq_1,c_ref11_Parser_told_L0.eq_1,rl,q])
  | succ m ih =>
    intro j hj hj2 g' R
    have hn : j < H.length := by omega
    have q : (j : Int) < H.length := by omega
    have q2 : (j : Int) < 66 := by omega
    have a1 := rn_at hn
    have hw := wrap_nat (n := j) (by omega)
    have tl : (rn ((H.take j).drop 2)).length = j - 2 := by rw [rn_len, List.length_drop, List.length_take]; omega
    have tt : (rn ((H.take j).drop 2)).take (j - 2) = rn ((H.take j).drop 2) := List.take_of_length_le (by rw [tl]; exact Nat.le_refl _)
    have ta : rn ((H.take (j + 1)).drop 2) = rn ((H.take j).drop 2) ++ [[.int .i32 H[j]]] := by
      rw [List.take_succ_eq_append_getElem hn, List.drop_append_of_le_length (by rw [List.length_take]; omega), rn_append]; rfl
    have hq : (j - 2 + 1) * 4 ≤ 140737488355328 := by omega
    have ih := ih (j + 1) (by omega) (by omega) 1 [⟨1, 0, true, [[.int .i32 H[j]]]⟩]
    rw [show j + 1 - 2 = j - 2 + 1 from by omega, ta] at ih
    rw [lp_ref11_Parser_told_0] at ih
    rw [lp_ref11_Parser_told_0, y_loop, gc, ← ih]
    (sym => simp [Qa,Qc,Qd,Qe,Qf,Qg,Qi,Qj,Qr,Qt,Qu,Qz,Q0,Q2,Q4,Q6,Q9,Xa,Xp,Xs,Xy,X0,X5,Ya,Yg,Yk,Yr,Yt,Yv,Yx,Y2,Y9,Za,Zb,Zc,Ze,Zg,Zh,Zk,Zl,Zm,Zn,Zt,Zv,Zw,Zx,Zy,Zz,Z0,Z3,Ja,Jj,Jk,Jm,Jn,Jo,Jr,Js,Ju,Jv,Kv,Kx,Ua,Ub,Uc,Ud,Ue,Uf,Ug,Us,Ut,Ux,U4,U5,U6,U7,Vb,Vi,Vj,Vk,Vl,Vm,Vn,Vo,Vp,Vq,Vr,Vs,Vt,Vu,Vv,Vw,Vx,Vy,Vz,V0,Hh,Hi,Hk,Hl,Ho,Hp,Hq,Hs,Hu,Hv,Hw,H0,H1,H2,H3,H5,H6,H8,Ng,Nh,Ni,Nk,Nl,Nm,No,Nx,Nz,N2,Be,Bg,q13R0.eq_1,q13R1.eq_1,q13R2.eq_1,q13R3.eq_1,q13R4.eq_1,q13R5.eq_1,q13R6.eq_1,q13R8.eq_1,q13R7.eq_1,q13R9.eq_1,c_ref11_Parser_told.eq_1,c_ref11_Parser_told_L0.eq_1,rl,q,q2,a1,hw,tl,tt,hq])
end
section
variable (G : Nat → Option (List AV)) (fl : Bool)
theorem told_noq (H : List Int) (d : Int) (h1 : 2 ≤ H.length) (h2 : H.length ≤ 100000) (hd : H[1]? = some d) (hn : ¬ d = 93) : aR G FT n_ref11_Parser_told [.ptr 0 0 0 0] [⟨1, 0, false, [[.own 1 0 0 H.length H.length]]⟩, ⟨1, 0, true, rn H⟩] =
    some (.data false 6 [] true, [⟨1, 0, false, [[.own 1 0 0 H.length H.length]]⟩, ⟨1, 0, true, rn H⟩]) := by
  have s := stringed_2q G false H d h1 h2 hd []
  have hn' : decide (d = 93) = false := by simpa using hn
  rw [hn'] at s
  rw [run_ref11_Parser_told]
  (sym => simp [Qb,Qd,Qe,Qi,Qj,Qm,Qn,Qo,Qr,Qt,Xd,Xw,Xx,Y1,Y5,Y7,Y9,Za,Zb,Zc,Ze,Zg,Zh,Zi,Zj,Zk,Zl,Zm,Zn,Zq,Zr,Zs,Zt,Zu,Zv,Zw,Jj,Jk,Jl,Jr,Jv,Jx,Hh,Hi,Nx,Be,q13R0.eq_1,q13R1.eq_1,q13R2.eq_1,q13R3.eq_1,q13R4.eq_1,q13R5.eq_1,q13R6.eq_1,q13R8.eq_1,q13R7.eq_1,q13R9.eq_1,c_ref11_Parser_told.eq_1,s])
theorem told_1q (x : AV) : aR G FT n_ref11_Parser_told [.ptr 0 0 0 0] [⟨1, 0, fl, [[.own 1 0 0 1 1]]⟩, ⟨1, 0, true, [[x]]⟩] =
    some (.data false 6 [] true, [⟨1, 0, fl, [[.own 1 0 0 1 1]]⟩, ⟨1, 0, true, [[x]]⟩]) := by
  have s := stringed_1q G fl [] x
  rw [run_ref11_Parser_told]
  (sym => simp [Qb,Qd,Qe,Qi,Qj,Qm,Qn,Qo,Qr,Qt,Xd,Xw,Xx,Y1,Y5,Y7,Y9,Za,Zb,Zc,Ze,Zg,Zh,Zi,Zj,Zk,Zl,Zm,Zn,Zq,Zr,Zs,Zt,Zu,Zv,Zw,Jj,Jk,Jl,Jr,Jv,Jx,Hh,Hi,Nx,Be,q13R0.eq_1,q13R1.eq_1,q13R2.eq_1,q13R3.eq_1,q13R4.eq_1,q13R5.eq_1,q13R6.eq_1,q13R8.eq_1,q13R7.eq_1,q13R9.eq_1,c_ref11_Parser_told.eq_1,s])
theorem told_0q : aR G FT n_ref11_Parser_told [.ptr 0 0 0 0] [⟨1, 0, fl, [[.data false 1 [] true]]⟩] =
    some (.data false 6 [] true, [⟨1, 0, fl, [[.data false 1 [] true]]⟩]) := by
  have s := stringed_0q G fl []
  rw [run_ref11_Parser_told]
  (sym => simp [Qb,Qd,Qe,Qi,Qj,Qm,Qn,Qo,Qr,Qt,Xd,Xw,Xx,Y1,Y5,Y7,Y9,Za,Zb,Zc,Ze,Zg,Zh,Zi,Zj,Zk,Zl,Zm,Zn,Zq,Zr,Zs,Zt,Zu,Zv,Zw,Jj,Jk,Jl,Jr,Jv,Jx,Hh,Hi,Nx,Be,q13R0.eq_1,q13R1.eq_1,q13R2.eq_1,q13R3.eq_1,q13R4.eq_1,q13R5.eq_1,q13R6.eq_1,q13R8.eq_1,q13R7.eq_1,q13R9.eq_1,c_ref11_Parser_told.eq_1,s])
theorem told_yesq (H : List Int) (h1 : 2 ≤ H.length) (h2 : H.length ≤ 100000) (hd : H[1]? = some 93) : aR G FT n_ref11_Parser_told [.ptr 0 0 0 0] [⟨1, 0, false, [[.own 1 0 0 H.length H.length]]⟩, ⟨1, 0, true, rn H⟩] =
    some (.own 3 0 0 1 1, [⟨1, 0, false, [[.own 1 0 0 H.length H.length]]⟩, ⟨1, 0, true, rn H⟩, ⟨1, 0, true, rn (heldT H)⟩,
      ⟨6, 0, false, [[.int .i64 5, .int .i32 0, .int .i32 0, .str ⟨#[]⟩, .data false 1 [] true, .own 2 0 0 (min H.length 66 - 2) (min H.length 66 - 2)]]⟩]) := by
  have s := stringed_2q G false H 93 h1 h2 hd []
  have i93 : isStr 93 = true := rfl
  have d93 : decide ((93 : Int) = 93) = true := rfl
  rw [i93, d93] at s
  have e0 : rn ((H.take 2).drop 2) = [] := by
    have : (H.take 2).drop 2 = [] := by rw [List.drop_eq_nil_iff]; simp; omega
    rw [this]; rfl
  have k := told_loopq G H h2 (min H.length 66 - 2) 2 (by omega) (by omega) 0 []
  rw [e0] at k
  simp only [Nat.sub_self, show ((2 : Nat) : Int) = 2 from rfl] at k
  rw [run_ref11_Parser_told]
  unfold heldT
  (sym => simp [Qb,Qc,Qd,Qe,Qi,Qj,Qm,Qn,Qo,Qr,Qs,Qt,Qx,Qy,Qz,Q0,Q1,Q2,Xd,Xw,Xx,Yj,Yk,Yo,Y1,Y5,Y7,Y9,Za,Zb,Zc,Ze,Zg,Zh,Zi,Zj,Zk,Zl,Zm,Zn,Zq,Zr,Zs,Zt,Zu,Zv,Zw,Z3,Jj,Jk,Jn,Jq,Jr,Jv,Jx,J1,K8,K9,Ua,Ub,Uc,Ud,Ue,Uf,Ug,Ui,Ul,Uq,Hh,Hi,Hk,Ho,Hp,Hr,Hs,Ht,Hu,Hv,Hw,H2,H3,No,Nq,Nw,Nx,Nz,Be,q13R0.eq_1,q13R1.eq_1,q13R2.eq_1,q13R3.eq_1,q13R4.eq_1,q13R5.eq_1,q13R6.eq_1,q13R8.eq_1,q13R7.eq_1,q13R9.eq_1,c_ref11_Parser_told.eq_1,s,k])
theorem r0_wordq (c : Int) (h1 : ¬ c = 27) : aR G FT n_ref11_Parser_one [.ptr 0 0 0 0, .int .i32 c] [⟨1, 0, fl, [[.data false 1 [] true]]⟩] =
    some (.data false 6 (actG (wordT c)) false, [⟨1, 0, fl, [[.data false 1 [] true]]⟩]) := by
  rw [run_ref11_Parser_one]
  have hw := word_P G c
  (sym => simp [Qb,Qc,Qd,Qe,Qi,Qj,Qm,Qn,Qo,Qr,Qt,Q4,Q6,Q9,Xa,Xp,Xy,X8,Yh,Yr,Yt,Yv,Y1,Y5,Y7,Y9,Za,Zb,Zc,Ze,Zg,Zh,Zi,Zj,Zk,Zl,Zm,Zn,Zo,Zr,Zs,Zt,Zu,Zv,Zw,Zy,Z0,Z3,Jj,Jk,Jl,Jr,Jv,Jx,V6,Wd,We,Hh,Nl,Nm,Be,Bh,q11R0.eq_1,q11R1.eq_1,q11R2.eq_1,q11R3.eq_1,q11R4.eq_1,q11R5.eq_1,q11R6.eq_1,q11R7.eq_1,q11R8.eq_1,q11R9.eq_1,q11R10.eq_1,q11R11.eq_1,q11R12.eq_1,q11R13.eq_1,q11R14.eq_1,q11R15.eq_1,q11R16.eq_1,q11R17.eq_1,q11R18.eq_1,q11R19.eq_1,q11R20.eq_1,q11R21.eq_1,q11R22.eq_1,q11R23.eq_1,q11R24.eq_1,q11R25.eq_1,q11R26.eq_1,q11R27.eq_1,q11R28.eq_1,q11R29.eq_1,q11R30.eq_1,q11R31.eq_1,q11R32.eq_1,q11R33.eq_1,q11R34.eq_1,c_ref11_Parser_one.eq_1,h1,hw])
theorem r0_27q : aR G FT n_ref11_Parser_one [.ptr 0 0 0 0, .int .i32 27] [⟨1, 0, fl, [[.data false 1 [] true]]⟩] =
    some (.data false 6 [] true, [⟨1, 0, false, [[.own 1 0 0 1 1]]⟩, ⟨1, 0, true, [[.int .i32 27]]⟩]) := by
  rw [run_ref11_Parser_one]
  have ht := told_0q G fl
  (sym => simp [Qb,Qd,Qe,Qi,Qj,Qm,Qn,Qo,Qr,Qt,Qz,Q0,Q2,Q5,Q6,Q9,Xa,Xp,X8,Yk,Yv,Y1,Y5,Y7,Y9,Za,Zb,Zc,Zd,Ze,Zg,Zh,Zi,Zj,Zk,Zl,Zm,Zn,Zq,Zr,Zs,Zt,Zu,Zv,Zw,Zy,Z0,Z1,Jj,Jk,Jl,Jr,Jv,Jx,J7,Ua,Ub,Uc,Ud,Ue,Uf,Ug,Hh,Hk,Hu,Hv,H2,H3,Nl,No,Nq,Nz,Be,q11R0.eq_1,q11R1.eq_1,q11R2.eq_1,q11R3.eq_1,q11R4.eq_1,q11R5.eq_1,q11R6.eq_1,q11R7.eq_1,q11R8.eq_1,q11R9.eq_1,q11R10.eq_1,q11R11.eq_1,q11R12.eq_1,q11R13.eq_1,q11R14.eq_1,q11R15.eq_1,q11R16.eq_1,q11R17.eq_1,q11R18.eq_1,q11R19.eq_1,q11R20.eq_1,q11R21.eq_1,q11R22.eq_1,q11R23.eq_1,q11R24.eq_1,q11R25.eq_1,q11R26.eq_1,q11R27.eq_1,q11R28.eq_1,q11R29.eq_1,q11R30.eq_1,q11R31.eq_1,q11R32.eq_1,q11R33.eq_1,q11R34.eq_1,c_ref11_Parser_one.eq_1,ht])
-- 27 alone held
theorem r1_27q (x : AV) : aR G FT n_ref11_Parser_one [.ptr 0 0 0 0, .int .i32 27] [⟨1, 0, false, [[.own 1 0 0 1 1]]⟩, ⟨1, 0, true, [[x]]⟩] =
    some (.data false 6 [] true, [⟨1, 0, false, [[.own 2 0 0 1 1]]⟩, ⟨1, 0, true, [[x]]⟩, ⟨1, 0, true, [[.int .i32 27]]⟩]) := by
  rw [run_ref11_Parser_one]
  have ht := told_1q G false x
  (sym => simp [Qb,Qd,Qe,Qi,Qj,Qm,Qn,Qo,Qr,Qt,Qz,Q0,Q2,Q5,Q6,Q9,Xa,Xp,X8,Yk,Yv,Y1,Y5,Y7,Y9,Za,Zb,Zc,Zd,Ze,Zg,Zh,Zi,Zj,Zk,Zl,Zm,Zn,Zq,Zr,Zs,Zt,Zu,Zv,Zw,Zy,Z0,Z1,Jj,Jk,Jl,Jr,Jv,Jx,J7,Ua,Ub,Uc,Ud,Ue,Uf,Ug,Hh,Hk,Hu,Hv,H2,H3,Nl,No,Nq,Nz,Be,q11R0.eq_1,q11R1.eq_1,q11R2.eq_1,q11R3.eq_1,q11R4.eq_1,q11R5.eq_1,q11R6.eq_1,q11R7.eq_1,q11R8.eq_1,q11R9.eq_1,q11R10.eq_1,q11R11.eq_1,q11R12.eq_1,q11R13.eq_1,q11R14.eq_1,q11R15.eq_1,q11R16.eq_1,q11R17.eq_1,q11R18.eq_1,q11R19.eq_1,q11R20.eq_1,q11R21.eq_1,q11R22.eq_1,q11R23.eq_1,q11R24.eq_1,q11R25.eq_1,q11R26.eq_1,q11R27.eq_1,q11R28.eq_1,q11R29.eq_1,q11R30.eq_1,q11R31.eq_1,q11R32.eq_1,q11R33.eq_1,q11R34.eq_1,c_ref11_Parser_one.eq_1,ht])
theorem r2_27nq (H : List Int) (d : Int) (h1 : 2 ≤ H.length) (h2 : H.length ≤ 100000) (hd : H[1]? = some d) (hn : ¬ d = 93) : aR G FT n_ref11_Parser_one [.ptr 0 0 0 0, .int .i32 27] [⟨1, 0, false, [[.own 1 0 0 H.length H.length]]⟩, ⟨1, 0, true, rn H⟩] =
    some (.data false 6 [] true, [⟨1, 0, false, [[.own 2 0 0 1 1]]⟩, ⟨1, 0, true, rn H⟩, ⟨1, 0, true, [[.int .i32 27]]⟩]) := by
  rw [run_ref11_Parser_one]
  have ht := told_noq G H d h1 h2 hd hn
  (sym => simp [Qb,Qd,Qe,Qi,Qj,Qm,Qn,Qo,Qr,Qt,Qz,Q0,Q2,Q5,Q6,Q9,Xa,Xp,X8,Yk,Yv,Y1,Y5,Y7,Y9,Za,Zb,Zc,Zd,Ze,Zg,Zh,Zi,Zj,Zk,Zl,Zm,Zn,Zq,Zr,Zs,Zt,Zu,Zv,Zw,Zy,Z0,Z1,Jj,Jk,Jl,Jr,Jv,Jx,J7,Ua,Ub,Uc,Ud,Ue,Uf,Ug,Hh,Hk,Hu,Hv,H2,H3,Nl,No,Nq,Nz,Be,q11R0.eq_1,q11R1.eq_1,q11R2.eq_1,q11R3.eq_1,q11R4.eq_1,q11R5.eq_1,q11R6.eq_1,q11R7.eq_1,q11R8.eq_1,q11R9.eq_1,q11R10.eq_1,q11R11.eq_1,q11R12.eq_1,q11R13.eq_1,q11R14.eq_1,q11R15.eq_1,q11R16.eq_1,q11R17.eq_1,q11R18.eq_1,q11R19.eq_1,q11R20.eq_1,q11R21.eq_1,q11R22.eq_1,q11R23.eq_1,q11R24.eq_1,q11R25.eq_1,q11R26.eq_1,q11R27.eq_1,q11R28.eq_1,q11R29.eq_1,q11R30.eq_1,q11R31.eq_1,q11R32.eq_1,q11R33.eq_1,q11R34.eq_1,c_ref11_Parser_one.eq_1,ht])
theorem r2_27yq (H : List Int) (h1 : 2 ≤ H.length) (h2 : H.length ≤ 100000) (hd : H[1]? = some 93) : aR G FT n_ref11_Parser_one [.ptr 0 0 0 0, .int .i32 27] [⟨1, 0, false, [[.own 1 0 0 H.length H.length]]⟩, ⟨1, 0, true, rn H⟩] =
    some (.own 3 0 0 1 1, [⟨1, 0, false, [[.own 4 0 0 1 1]]⟩, ⟨1, 0, true, rn H⟩, ⟨1, 0, true, rn (heldT H)⟩,
      ⟨6, 0, false, [[.int .i64 5, .int .i32 0, .int .i32 0, .str ⟨#[]⟩, .data false 1 [] true, .own 2 0 0 (min H.length 66 - 2) (min H.length 66 - 2)]]⟩, ⟨1, 0, true, [[.int .i32 27]]⟩]) := by
  rw [run_ref11_Parser_one]
  have ht := told_yesq G H h1 h2 hd
  (sym => simp [Qb,Qd,Qe,Qi,Qj,Qm,Qn,Qo,Qr,Qt,Qz,Q0,Q2,Q5,Q6,Q9,Xa,Xp,X8,Yk,Yv,Y1,Y5,Y7,Y9,Za,Zb,Zc,Zd,Ze,Zg,Zh,Zi,Zj,Zk,Zl,Zm,Zn,Zq,Zr,Zs,Zt,Zu,Zv,Zw,Zy,Z0,Z1,Jj,Jk,Jl,Jr,Jv,Jx,J7,Ua,Ub,Uc,Ud,Ue,Uf,Ug,Hh,Hk,Hu,Hv,H2,H3,Nl,No,Nq,Nz,Be,q11R0.eq_1,q11R1.eq_1,q11R2.eq_1,q11R3.eq_1,q11R4.eq_1,q11R5.eq_1,q11R6.eq_1,q11R7.eq_1,q11R8.eq_1,q11R9.eq_1,q11R10.eq_1,q11R11.eq_1,q11R12.eq_1,q11R13.eq_1,q11R14.eq_1,q11R15.eq_1,q11R16.eq_1,q11R17.eq_1,q11R18.eq_1,q11R19.eq_1,q11R20.eq_1,q11R21.eq_1,q11R22.eq_1,q11R23.eq_1,q11R24.eq_1,q11R25.eq_1,q11R26.eq_1,q11R27.eq_1,q11R28.eq_1,q11R29.eq_1,q11R30.eq_1,q11R31.eq_1,q11R32.eq_1,q11R33.eq_1,q11R34.eq_1,c_ref11_Parser_one.eq_1,ht])
theorem r_canq (H : List Int) (h0 : H ≠ []) (c : Int) (hc : c = 24 ∨ c = 26) : aR G FT n_ref11_Parser_one [.ptr 0 0 0 0, .int .i32 c] [⟨1, 0, false, [[.own 1 0 0 H.length H.length]]⟩, ⟨1, 0, true, rn H⟩] =
    some (.data false 6 (actG (wordT c)) false, [⟨1, 0, false, [[.data false 1 [] true]]⟩, ⟨1, 0, true, rn H⟩]) := by
  rw [run_ref11_Parser_one]
  have hw := word_P G c
  have hp : 0 < H.length := List.length_pos_iff.2 h0
  have q : ¬ (H.length : Int) = 0 := by omega
  have q' : ¬ H.length = 0 := by omega
  rcases hc with rfl | rfl
  · (sym => simp [Qb,Qc,Qd,Qe,Qf,Qg,Qi,Qj,Qm,Qn,Qo,Qr,Qt,Qu,Q4,Q5,Q6,Q9,Xa,Xp,Xy,X8,Yg,Yr,Yt,Yv,Y1,Y5,Y7,Y9,Za,Zb,Zc,Zd,Ze,Zg,Zh,Zi,Zj,Zk,Zl,Zm,Zn,Zo,Zr,Zs,Zt,Zu,Zv,Zw,Zy,Z0,Z1,Z3,Jb,Jj,Jk,Jl,Jr,Jv,Jx,J6,V6,Wd,We,Hh,Hk,Ne,Nl,Nm,No,Nw,Nx,Be,q11R0.eq_1,q11R1.eq_1,q11R2.eq_1,q11R3.eq_1,q11R4.eq_1,q11R5.eq_1,q11R6.eq_1,q11R7.eq_1,q11R8.eq_1,q11R9.eq_1,q11R10.eq_1,q11R11.eq_1,q11R12.eq_1,q11R13.eq_1,q11R14.eq_1,q11R15.eq_1,q11R16.eq_1,q11R17.eq_1,q11R18.eq_1,q11R19.eq_1,q11R20.eq_1,q11R21.eq_1,q11R22.eq_1,q11R23.eq_1,q11R24.eq_1,q11R25.eq_1,q11R26.eq_1,q11R27.eq_1,q11R28.eq_1,q11R29.eq_1,q11R30.eq_1,q11R31.eq_1,q11R32.eq_1,q11R33.eq_1,q11R34.eq_1,c_ref11_Parser_one.eq_1,hw,q,q'])
  · (sym => simp [Qb,Qc,Qd,Qe,Qf,Qg,Qi,Qj,Qm,Qn,Qo,Qr,Qt,Qu,Q4,Q5,Q6,Q9,Xa,Xp,Xy,X8,Yg,Yr,Yt,Yv,Y1,Y5,Y7,Y9,Za,Zb,Zc,Zd,Ze,Zg,Zh,Zi,Zj,Zk,Zl,Zm,Zn,Zo,Zr,Zs,Zt,Zu,Zv,Zw,Zy,Z0,Z1,Z3,Jb,Jj,Jk,Jl,Jr,Jv,Jx,J6,V6,Wd,We,Hh,Hk,Ne,Nl,Nm,No,Nw,Nx,Be,q11R0.eq_1,q11R1.eq_1,q11R2.eq_1,q11R3.eq_1,q11R4.eq_1,q11R5.eq_1,q11R6.eq_1,q11R7.eq_1,q11R8.eq_1,q11R9.eq_1,q11R10.eq_1,q11R11.eq_1,q11R12.eq_1,q11R13.eq_1,q11R14.eq_1,q11R15.eq_1,q11R16.eq_1,q11R17.eq_1,q11R18.eq_1,q11R19.eq_1,q11R20.eq_1,q11R21.eq_1,q11R22.eq_1,q11R23.eq_1,q11R24.eq_1,q11R25.eq_1,q11R26.eq_1,q11R27.eq_1,q11R28.eq_1,q11R29.eq_1,q11R30.eq_1,q11R31.eq_1,q11R32.eq_1,q11R33.eq_1,q11R34.eq_1,c_ref11_Parser_one.eq_1,hw,q,q'])
end
section
variable (G : Nat → Option (List AV)) (fl : Bool)
-- 27 alone held
theorem r1_lowq (c : Int) (h1 : ¬ c = 27) (h2 : ¬ c = 24) (h3 : ¬ c = 26) (h4 : c < 32 ∨ c = 127) (x : AV) : aR G FT n_ref11_Parser_one [.ptr 0 0 0 0, .int .i32 c] [⟨1, 0, false, [[.own 1 0 0 1 1]]⟩, ⟨1, 0, true, [[x]]⟩] =
    some (.data false 6 (actG (wordT c)) false, [⟨1, 0, false, [[.own 1 0 0 1 1]]⟩, ⟨1, 0, true, [[x]]⟩]) := by
  rw [run_ref11_Parser_one]
  have hw := word_P G c
  have s := stringed_1q G false [] x
  rcases h4 with h4 | rfl
  · (sym => simp [Qb,Qc,Qd,Qe,Qf,Qg,Qi,Qj,Qm,Qn,Qo,Qr,Qt,Qu,Q4,Q6,Q9,Xa,Xp,Xw,Xx,Xy,X8,Ya,Yg,Yr,Yt,Yv,Y1,Y5,Y7,Y9,Za,Zb,Zc,Ze,Zg,Zh,Zi,Zj,Zk,Zl,Zm,Zn,Zo,Zq,Zr,Zs,Zt,Zu,Zv,Zw,Zy,Z0,Z3,Jb,Jj,Jk,Jl,Jr,Jv,Jx,V6,Wd,We,Hh,Hi,Nl,Nm,Nw,Nx,Be,Bh,q11R0.eq_1,q11R1.eq_1,q11R2.eq_1,q11R3.eq_1,q11R4.eq_1,q11R5.eq_1,q11R6.eq_1,q11R7.eq_1,q11R8.eq_1,q11R9.eq_1,q11R10.eq_1,q11R11.eq_1,q11R12.eq_1,q11R13.eq_1,q11R14.eq_1,q11R15.eq_1,q11R16.eq_1,q11R17.eq_1,q11R18.eq_1,q11R19.eq_1,q11R20.eq_1,q11R21.eq_1,q11R22.eq_1,q11R23.eq_1,q11R24.eq_1,q11R25.eq_1,q11R26.eq_1,q11R27.eq_1,q11R28.eq_1,q11R29.eq_1,q11R30.eq_1,q11R31.eq_1,q11R32.eq_1,q11R33.eq_1,q11R34.eq_1,c_ref11_Parser_one.eq_1,h1,h2,h3,h4,hw,s])
  · (sym => simp [Qb,Qc,Qd,Qe,Qf,Qg,Qi,Qj,Qm,Qn,Qo,Qr,Qt,Qu,Q4,Q6,Q9,Xa,Xp,Xw,Xx,Xy,X8,Ya,Yg,Yr,Yt,Yv,Y1,Y5,Y7,Y9,Za,Zb,Zc,Ze,Zg,Zh,Zi,Zj,Zk,Zl,Zm,Zn,Zo,Zq,Zr,Zs,Zt,Zu,Zv,Zw,Zy,Z0,Z3,Jb,Jj,Jk,Jl,Jr,Jv,Jx,V6,Wd,We,Hh,Hi,Nl,Nm,Nw,Nx,Be,Bh,q11R0.eq_1,q11R1.eq_1,q11R2.eq_1,q11R3.eq_1,q11R4.eq_1,q11R5.eq_1,q11R6.eq_1,q11R7.eq_1,q11R8.eq_1,q11R9.eq_1,q11R10.eq_1,q11R11.eq_1,q11R12.eq_1,q11R13.eq_1,q11R14.eq_1,q11R15.eq_1,q11R16.eq_1,q11R17.eq_1,q11R18.eq_1,q11R19.eq_1,q11R20.eq_1,q11R21.eq_1,q11R22.eq_1,q11R23.eq_1,q11R24.eq_1,q11R25.eq_1,q11R26.eq_1,q11R27.eq_1,q11R28.eq_1,q11R29.eq_1,q11R30.eq_1,q11R31.eq_1,q11R32.eq_1,q11R33.eq_1,q11R34.eq_1,c_ref11_Parser_one.eq_1,hw,s])
theorem r1_hiq (c : Int) (h4 : 160 ≤ c) (x : AV) : aR G FT n_ref11_Parser_one [.ptr 0 0 0 0, .int .i32 c] [⟨1, 0, false, [[.own 1 0 0 1 1]]⟩, ⟨1, 0, true, [[x]]⟩] =
    some (.data false 6 (actG (wordT c)) false, [⟨1, 0, false, [[.data false 1 [] true]]⟩, ⟨1, 0, true, [[x]]⟩]) := by
  rw [run_ref11_Parser_one]
  have hw := word_P G c
  have s := stringed_1q G false [] x
  have h1 : ¬ c = 27 := by omega
  have h2 : ¬ c = 24 := by omega
  have h3 : ¬ c = 26 := by omega
  have h5 : ¬ c < 32 := by omega
  have h6 : ¬ c = 127 := by omega
  (sym => simp [Qb,Qc,Qd,Qe,Qf,Qg,Qi,Qj,Qm,Qn,Qo,Qr,Qt,Qu,Q4,Q5,Q6,Q9,Xa,Xp,Xw,Xx,Xy,X8,Ya,Yd,Yg,Yr,Yt,Yv,Y1,Y5,Y7,Y9,Za,Zb,Zc,Zd,Ze,Zg,Zh,Zi,Zj,Zk,Zl,Zm,Zn,Zo,Zq,Zr,Zs,Zt,Zu,Zv,Zw,Zy,Z0,Z1,Z3,Jb,Jj,Jk,Jl,Jr,Jv,Jx,J6,V6,Wd,We,Hh,Hi,Hk,Nl,Nm,No,Nx,Be,Bh,q11R0.eq_1,q11R1.eq_1,q11R2.eq_1,q11R3.eq_1,q11R4.eq_1,q11R5.eq_1,q11R6.eq_1,q11R7.eq_1,q11R8.eq_1,q11R9.eq_1,q11R10.eq_1,q11R11.eq_1,q11R12.eq_1,q11R13.eq_1,q11R14.eq_1,q11R15.eq_1,q11R16.eq_1,q11R17.eq_1,q11R18.eq_1,q11R19.eq_1,q11R20.eq_1,q11R21.eq_1,q11R22.eq_1,q11R23.eq_1,q11R24.eq_1,q11R25.eq_1,q11R26.eq_1,q11R27.eq_1,q11R28.eq_1,q11R29.eq_1,q11R30.eq_1,q11R31.eq_1,q11R32.eq_1,q11R33.eq_1,q11R34.eq_1,c_ref11_Parser_one.eq_1,h1,h2,h3,h4,h5,h6,hw,s])
theorem r1_qq (c : Int) (h1 : 32 ≤ c) (h2 : ¬ c = 127) (h3 : c < 160) (h4 : c < 48 ∨ c = 91 ∨ isStr c = true) (x : AV) : aR G FT n_ref11_Parser_one [.ptr 0 0 0 0, .int .i32 c] [⟨1, 0, false, [[.own 1 0 0 1 1]]⟩, ⟨1, 0, true, [[x]]⟩] =
    some (.data false 6 [] true, [⟨1, 0, false, [[.own 1 1 0 2 2]]⟩, ⟨1, 1, true, [[x], [.int .i32 c]]⟩, ⟨1, 0, true, [[.int .i32 c]]⟩]) := by
  rw [run_ref11_Parser_one]
  have s := stringed_1q G false [] x
  have k1 : ¬ c = 27 := by omega
  have k2 : ¬ c = 24 := by omega
  have k3 : ¬ c = 26 := by omega
  have k4 : ¬ 160 ≤ c := by omega
  have k5 : ¬ c < 32 := by omega
  by_cases k6 : c = 91
  · subst k6; (sym => simp [Qb,Qc,Qd,Qe,Qf,Qg,Qh,Qi,Qj,Qm,Qn,Qo,Qr,Qt,Qu,Qz,Q0,Q2,Q4,Q5,Q6,Q9,Xa,Xp,Xs,Xw,Xx,Xy,X0,X8,Ya,Yd,Yg,Yk,Yr,Yt,Yv,Yx,Y1,Y2,Y5,Y7,Y9,Za,Zb,Zc,Zd,Ze,Zg,Zh,Zi,Zj,Zk,Zl,Zm,Zn,Zq,Zr,Zs,Zt,Zu,Zv,Zw,Zx,Zy,Zz,Z0,Z1,Z3,Ja,Jb,Jj,Jk,Jl,Jr,Jv,Jx,J7,Kv,Kx,Ua,Ub,Uc,Ud,Ue,Uf,Ug,Hh,Hi,Hk,Hl,Ho,Hq,Hs,Hu,Hv,H2,H3,Nl,Nm,No,Nq,Nw,Nx,Nz,N2,Be,Bg,Bh,Bi,q11R0.eq_1,q11R1.eq_1,q11R2.eq_1,q11R3.eq_1,q11R4.eq_1,q11R5.eq_1,q11R6.eq_1,q11R7.eq_1,q11R8.eq_1,q11R9.eq_1,q11R10.eq_1,q11R11.eq_1,q11R12.eq_1,q11R13.eq_1,q11R14.eq_1,q11R15.eq_1,q11R16.eq_1,q11R17.eq_1,q11R18.eq_1,q11R19.eq_1,q11R20.eq_1,q11R21.eq_1,q11R22.eq_1,q11R23.eq_1,q11R24.eq_1,q11R25.eq_1,q11R26.eq_1,q11R27.eq_1,q11R28.eq_1,q11R29.eq_1,q11R30.eq_1,q11R31.eq_1,q11R32.eq_1,q11R33.eq_1,q11R34.eq_1,c_ref11_Parser_one.eq_1,s])
  by_cases k7 : c < 48
  · (sym => simp [Qb,Qc,Qd,Qe,Qf,Qg,Qh,Qi,Qj,Qm,Qn,Qo,Qr,Qt,Qu,Qz,Q0,Q2,Q4,Q5,Q6,Q9,Xa,Xp,Xs,Xw,Xx,Xy,X0,X8,Ya,Yd,Yg,Yk,Yr,Yt,Yv,Yx,Y1,Y2,Y5,Y7,Y9,Za,Zb,Zc,Zd,Ze,Zg,Zh,Zi,Zj,Zk,Zl,Zm,Zn,Zq,Zr,Zs,Zt,Zu,Zv,Zw,Zx,Zy,Zz,Z0,Z1,Z3,Ja,Jb,Jj,Jk,Jl,Jr,Jv,Jx,J7,Kv,Kx,Ua,Ub,Uc,Ud,Ue,Uf,Ug,Hh,Hi,Hk,Hl,Ho,Hq,Hs,Hu,Hv,H2,H3,Nl,Nm,No,Nq,Nw,Nx,Nz,N2,Be,Bg,Bh,Bi,q11R0.eq_1,q11R1.eq_1,q11R2.eq_1,q11R3.eq_1,q11R4.eq_1,q11R5.eq_1,q11R6.eq_1,q11R7.eq_1,q11R8.eq_1,q11R9.eq_1,q11R10.eq_1,q11R11.eq_1,q11R12.eq_1,q11R13.eq_1,q11R14.eq_1,q11R15.eq_1,q11R16.eq_1,q11R17.eq_1,q11R18.eq_1,q11R19.eq_1,q11R20.eq_1,q11R21.eq_1,q11R22.eq_1,q11R23.eq_1,q11R24.eq_1,q11R25.eq_1,q11R26.eq_1,q11R27.eq_1,q11R28.eq_1,q11R29.eq_1,q11R30.eq_1,q11R31.eq_1,q11R32.eq_1,q11R33.eq_1,q11R34.eq_1,c_ref11_Parser_one.eq_1,s,h2,k1,k2,k3,k4,k5,k6,k7])
  have h5 : c = 93 ∨ c = 80 ∨ c = 88 ∨ c = 94 ∨ c = 95 := by
    rcases h4 with h | h | h
    · exact absurd h k7
    · exact absurd h k6
    · simp only [isStr, Bool.or_eq_true, decide_eq_true_eq] at h
      omega
  rcases h5 with rfl | rfl | rfl | rfl | rfl
  · (sym => simp [Qb,Qc,Qd,Qe,Qf,Qg,Qh,Qi,Qj,Qm,Qn,Qo,Qr,Qt,Qu,Qz,Q0,Q2,Q4,Q5,Q6,Q9,Xa,Xp,Xs,Xw,Xx,Xy,X0,X8,Ya,Yd,Yg,Yk,Yr,Yt,Yv,Yx,Y1,Y2,Y5,Y7,Y9,Za,Zb,Zc,Zd,Ze,Zg,Zh,Zi,Zj,Zk,Zl,Zm,Zn,Zq,Zr,Zs,Zt,Zu,Zv,Zw,Zx,Zy,Zz,Z0,Z1,Z3,Ja,Jb,Jj,Jk,Jl,Jr,Jv,Jx,J7,Kv,Kx,Ua,Ub,Uc,Ud,Ue,Uf,Ug,Hh,Hi,Hk,Hl,Ho,Hq,Hs,Hu,Hv,H2,H3,Nl,Nm,No,Nq,Nw,Nx,Nz,N2,Be,Bg,Bh,Bi,q11R0.eq_1,q11R1.eq_1,q11R2.eq_1,q11R3.eq_1,q11R4.eq_1,q11R5.eq_1,q11R6.eq_1,q11R7.eq_1,q11R8.eq_1,q11R9.eq_1,q11R10.eq_1,q11R11.eq_1,q11R12.eq_1,q11R13.eq_1,q11R14.eq_1,q11R15.eq_1,q11R16.eq_1,q11R17.eq_1,q11R18.eq_1,q11R19.eq_1,q11R20.eq_1,q11R21.eq_1,q11R22.eq_1,q11R23.eq_1,q11R24.eq_1,q11R25.eq_1,q11R26.eq_1,q11R27.eq_1,q11R28.eq_1,q11R29.eq_1,q11R30.eq_1,q11R31.eq_1,q11R32.eq_1,q11R33.eq_1,q11R34.eq_1,c_ref11_Parser_one.eq_1,s])
  · (sym => simp [Qb,Qc,Qd,Qe,Qf,Qg,Qh,Qi,Qj,Qm,Qn,Qo,Qr,Qt,Qu,Qz,Q0,Q2,Q4,Q5,Q6,Q9,Xa,Xp,Xs,Xw,Xx,Xy,X0,X8,Ya,Yd,Yg,Yk,Yr,Yt,Yv,Yx,Y1,Y2,Y5,Y7,Y9,Za,Zb,Zc,Zd,Ze,Zg,Zh,Zi,Zj,Zk,Zl,Zm,Zn,Zq,Zr,Zs,Zt,Zu,Zv,Zw,Zx,Zy,Zz,Z0,Z1,Z3,Ja,Jb,Jj,Jk,Jl,Jr,Jv,Jx,J7,Kv,Kx,Ua,Ub,Uc,Ud,Ue,Uf,Ug,Hh,Hi,Hk,Hl,Ho,Hq,Hs,Hu,Hv,H2,H3,Nl,Nm,No,Nq,Nw,Nx,Nz,N2,Be,Bg,Bh,Bi,q11R0.eq_1,q11R1.eq_1,q11R2.eq_1,q11R3.eq_1,q11R4.eq_1,q11R5.eq_1,q11R6.eq_1,q11R7.eq_1,q11R8.eq_1,q11R9.eq_1,q11R10.eq_1,q11R11.eq_1,q11R12.eq_1,q11R13.eq_1,q11R14.eq_1,q11R15.eq_1,q11R16.eq_1,q11R17.eq_1,q11R18.eq_1,q11R19.eq_1,q11R20.eq_1,q11R21.eq_1,q11R22.eq_1,q11R23.eq_1,q11R24.eq_1,q11R25.eq_1,q11R26.eq_1,q11R27.eq_1,q11R28.eq_1,q11R29.eq_1,q11R30.eq_1,q11R31.eq_1,q11R32.eq_1,q11R33.eq_1,q11R34.eq_1,c_ref11_Parser_one.eq_1,s])
  · (sym => simp [Qb,Qc,Qd,Qe,Qf,Qg,Qh,Qi,Qj,Qm,Qn,Qo,Qr,Qt,Qu,Qz,Q0,Q2,Q4,Q5,Q6,Q9,Xa,Xp,Xs,Xw,Xx,Xy,X0,X8,Ya,Yd,Yg,Yk,Yr,Yt,Yv,Yx,Y1,Y2,Y5,Y7,Y9,Za,Zb,Zc,Zd,Ze,Zg,Zh,Zi,Zj,Zk,Zl,Zm,Zn,Zq,Zr,Zs,Zt,Zu,Zv,Zw,Zx,Zy,Zz,Z0,Z1,Z3,Ja,Jb,Jj,Jk,Jl,Jr,Jv,Jx,J7,Kv,Kx,Ua,Ub,Uc,Ud,Ue,Uf,Ug,Hh,Hi,Hk,Hl,Ho,Hq,Hs,Hu,Hv,H2,H3,Nl,Nm,No,Nq,Nw,Nx,Nz,N2,Be,Bg,Bh,Bi,q11R0.eq_1,q11R1.eq_1,q11R2.eq_1,q11R3.eq_1,q11R4.eq_1,q11R5.eq_1,q11R6.eq_1,q11R7.eq_1,q11R8.eq_1,q11R9.eq_1,q11R10.eq_1,q11R11.eq_1,q11R12.eq_1,q11R13.eq_1,q11R14.eq_1,q11R15.eq_1,q11R16.eq_1,q11R17.eq_1,q11R18.eq_1,q11R19.eq_1,q11R20.eq_1,q11R21.eq_1,q11R22.eq_1,q11R23.eq_1,q11R24.eq_1,q11R25.eq_1,q11R26.eq_1,q11R27.eq_1,q11R28.eq_1,q11R29.eq_1,q11R30.eq_1,q11R31.eq_1,q11R32.eq_1,q11R33.eq_1,q11R34.eq_1,c_ref11_Parser_one.eq_1,s])
  · (sym => simp [Qb,Qc,Qd,Qe,Qf,Qg,Qh,Qi,Qj,Qm,Qn,Qo,Qr,Qt,Qu,Qz,Q0,Q2,Q4,Q5,Q6,Q9,Xa,Xp,Xs,Xw,Xx,Xy,X0,X8,Ya,Yd,Yg,Yk,Yr,Yt,Yv,Yx,Y1,Y2,Y5,Y7,Y9,Za,Zb,Zc,Zd,Ze,Zg,Zh,Zi,Zj,Zk,Zl,Zm,Zn,Zq,Zr,Zs,Zt,Zu,Zv,Zw,Zx,Zy,Zz,Z0,Z1,Z3,Ja,Jb,Jj,Jk,Jl,Jr,Jv,Jx,J7,Kv,Kx,Ua,Ub,Uc,Ud,Ue,Uf,Ug,Hh,Hi,Hk,Hl,Ho,Hq,Hs,Hu,Hv,H2,H3,Nl,Nm,No,Nq,Nw,Nx,Nz,N2,Be,Bg,Bh,Bi,q11R0.eq_1,q11R1.eq_1,q11R2.eq_1,q11R3.eq_1,q11R4.eq_1,q11R5.eq_1,q11R6.eq_1,q11R7.eq_1,q11R8.eq_1,q11R9.eq_1,q11R10.eq_1,q11R11.eq_1,q11R12.eq_1,q11R13.eq_1,q11R14.eq_1,q11R15.eq_1,q11R16.eq_1,q11R17.eq_1,q11R18.eq_1,q11R19.eq_1,q11R20.eq_1,q11R21.eq_1,q11R22.eq_1,q11R23.eq_1,q11R24.eq_1,q11R25.eq_1,q11R26.eq_1,q11R27.eq_1,q11R28.eq_1,q11R29.eq_1,q11R30.eq_1,q11R31.eq_1,q11R32.eq_1,q11R33.eq_1,q11R34.eq_1,c_ref11_Parser_one.eq_1,s])
  · (sym => simp [Qb,Qc,Qd,Qe,Qf,Qg,Qh,Qi,Qj,Qm,Qn,Qo,Qr,Qt,Qu,Qz,Q0,Q2,Q4,Q5,Q6,Q9,Xa,Xp,Xs,Xw,Xx,Xy,X0,X8,Ya,Yd,Yg,Yk,Yr,Yt,Yv,Yx,Y1,Y2,Y5,Y7,Y9,Za,Zb,Zc,Zd,Ze,Zg,Zh,Zi,Zj,Zk,Zl,Zm,Zn,Zq,Zr,Zs,Zt,Zu,Zv,Zw,Zx,Zy,Zz,Z0,Z1,Z3,Ja,Jb,Jj,Jk,Jl,Jr,Jv,Jx,J7,Kv,Kx,Ua,Ub,Uc,Ud,Ue,Uf,Ug,Hh,Hi,Hk,Hl,Ho,Hq,Hs,Hu,Hv,H2,H3,Nl,Nm,No,Nq,Nw,Nx,Nz,N2,Be,Bg,Bh,Bi,q11R0.eq_1,q11R1.eq_1,q11R2.eq_1,q11R3.eq_1,q11R4.eq_1,q11R5.eq_1,q11R6.eq_1,q11R7.eq_1,q11R8.eq_1,q11R9.eq_1,q11R10.eq_1,q11R11.eq_1,q11R12.eq_1,q11R13.eq_1,q11R14.eq_1,q11R15.eq_1,q11R16.eq_1,q11R17.eq_1,q11R18.eq_1,q11R19.eq_1,q11R20.eq_1,q11R21.eq_1,q11R22.eq_1,q11R23.eq_1,q11R24.eq_1,q11R25.eq_1,q11R26.eq_1,q11R27.eq_1,q11R28.eq_1,q11R29.eq_1,q11R30.eq_1,q11R31.eq_1,q11R32.eq_1,q11R33.eq_1,q11R34.eq_1,c_ref11_Parser_one.eq_1,s])
theorem r1_escq (c : Int) (h1 : 48 ≤ c) (h2 : ¬ c = 127) (h3 : c < 160) (h4 : ¬ c = 91) (h5 : isStr c = false) (x : AV) : aR G FT n_ref11_Parser_one [.ptr 0 0 0 0, .int .i32 c] [⟨1, 0, false, [[.own 1 0 0 1 1]]⟩, ⟨1, 0, true, [[x]]⟩] =
    some (.data false 6 (actG (escT [c] c)) false, [⟨1, 0, false, [[.data false 1 [] true]]⟩, ⟨1, 1, true, [[x], [.int .i32 c]]⟩, ⟨1, 0, true, [[.int .i32 c]]⟩]) := by
  rw [run_ref11_Parser_one]
  have s := stringed_1q G false [] x
  have k1 : ¬ c = 27 := by omega
  have k2 : ¬ c = 24 := by omega
  have k3 : ¬ c = 26 := by omega
  have k4 : ¬ 160 ≤ c := by omega
  have k5 : ¬ c < 32 := by omega
  have k6 : ¬ c < 48 := by omega
  simp only [isStr, Bool.or_eq_false_iff, decide_eq_false_iff_not] at h5
  obtain ⟨⟨⟨⟨m1, m2⟩, m3⟩, m4⟩, m5⟩ := h5
  have he := fun b f => resc_P G c [c] b f (by simp) (by simp) rfl
  simp only [rn, List.map_cons, List.map_nil] at he
  (sym => simp [Qb,Qc,Qd,Qe,Qf,Qg,Qi,Qj,Qm,Qn,Qo,Qr,Qt,Qu,Qz,Q0,Q2,Q4,Q5,Q6,Q9,Xa,Xl,Xm,Xn,Xp,Xs,Xw,Xx,Xy,X0,X8,Ya,Yd,Yg,Yk,Yr,Yt,Yv,Yx,Y1,Y2,Y5,Y7,Y9,Za,Zb,Zc,Zd,Ze,Zg,Zh,Zi,Zj,Zk,Zl,Zm,Zn,Zo,Zq,Zr,Zs,Zt,Zu,Zv,Zw,Zx,Zy,Zz,Z0,Z1,Z3,Ja,Jb,Jj,Jk,Jr,Jv,Jx,J6,J7,Kv,Kx,K0,K1,K2,Ua,Ub,Uc,Ud,Ue,Uf,Ug,V1,Wd,We,Hh,Hi,Hk,Hl,Ho,Hq,Hr,Hs,Hu,Hv,H2,H3,Nl,Nm,No,Nq,Nx,Nz,N2,Be,Bg,Bh,Bi,q11R0.eq_1,q11R1.eq_1,q11R2.eq_1,q11R3.eq_1,q11R4.eq_1,q11R5.eq_1,q11R6.eq_1,q11R7.eq_1,q11R8.eq_1,q11R9.eq_1,q11R10.eq_1,q11R11.eq_1,q11R12.eq_1,q11R13.eq_1,q11R14.eq_1,q11R15.eq_1,q11R16.eq_1,q11R17.eq_1,q11R18.eq_1,q11R19.eq_1,q11R20.eq_1,q11R21.eq_1,q11R22.eq_1,q11R23.eq_1,q11R24.eq_1,q11R25.eq_1,q11R26.eq_1,q11R27.eq_1,q11R28.eq_1,q11R29.eq_1,q11R30.eq_1,q11R31.eq_1,q11R32.eq_1,q11R33.eq_1,q11R34.eq_1,c_ref11_Parser_one.eq_1,s,h2,h4,k1,k2,k3,k4,k5,k6,m1,m2,m3,m4,m5,he])
-- more held
section
variable (H : List Int) (d : Int) (h1 : 2 ≤ H.length) (h2 : H.length ≤ 10000) (hd : H[1]? = some d)
include h1 h2 hd
theorem r2_lowq (hs : isStr d = false) (c : Int) (k1 : ¬ c = 27) (k2 : ¬ c = 24) (k3 : ¬ c = 26) (k4 : c < 32 ∨ c = 127) : aR G FT n_ref11_Parser_one [.ptr 0 0 0 0, .int .i32 c] [⟨1, 0, false, [[.own 1 0 0 H.length H.length]]⟩, ⟨1, 0, true, rn H⟩] =
    some (.data false 6 (actG (wordT c)) false, [⟨1, 0, false, [[.own 1 0 0 H.length H.length]]⟩, ⟨1, 0, true, rn H⟩]) := by
  rw [run_ref11_Parser_one]
  have hw := word_P G c
  have s := stringed_2q G false H d h1 (by omega) hd []
  rw [hs] at s
  have q : ¬ (H.length : Int) = 0 := by omega
  have q' : ¬ H.length = 0 := by omega
  rcases k4 with k4 | rfl
  · (sym => simp [Qb,Qc,Qd,Qe,Qf,Qg,Qi,Qj,Qm,Qn,Qo,Qr,Qt,Qu,Q4,Q6,Q9,Xa,Xp,Xw,Xx,Xy,X8,Ya,Yg,Yr,Yt,Yv,Y1,Y5,Y7,Y9,Za,Zb,Zc,Ze,Zg,Zh,Zi,Zj,Zk,Zl,Zm,Zn,Zo,Zq,Zr,Zs,Zt,Zu,Zv,Zw,Zy,Z0,Z3,Jb,Jj,Jk,Jl,Jr,Jv,Jx,V6,Wd,We,Hh,Hi,Nl,Nm,Nw,Nx,Be,q11R0.eq_1,q11R1.eq_1,q11R2.eq_1,q11R3.eq_1,q11R4.eq_1,q11R5.eq_1,q11R6.eq_1,q11R7.eq_1,q11R8.eq_1,q11R9.eq_1,q11R10.eq_1,q11R11.eq_1,q11R12.eq_1,q11R13.eq_1,q11R14.eq_1,q11R15.eq_1,q11R16.eq_1,q11R17.eq_1,q11R18.eq_1,q11R19.eq_1,q11R20.eq_1,q11R21.eq_1,q11R22.eq_1,q11R23.eq_1,q11R24.eq_1,q11R25.eq_1,q11R26.eq_1,q11R27.eq_1,q11R28.eq_1,q11R29.eq_1,q11R30.eq_1,q11R31.eq_1,q11R32.eq_1,q11R33.eq_1,q11R34.eq_1,c_ref11_Parser_one.eq_1,k1,k2,k3,k4,hw,s,q,q'])
  · (sym => simp [Qb,Qc,Qd,Qe,Qf,Qg,Qi,Qj,Qm,Qn,Qo,Qr,Qt,Qu,Q4,Q6,Q9,Xa,Xp,Xw,Xx,Xy,X8,Ya,Yg,Yr,Yt,Yv,Y1,Y5,Y7,Y9,Za,Zb,Zc,Ze,Zg,Zh,Zi,Zj,Zk,Zl,Zm,Zn,Zo,Zq,Zr,Zs,Zt,Zu,Zv,Zw,Zy,Z0,Z3,Jb,Jj,Jk,Jl,Jr,Jv,Jx,V6,Wd,We,Hh,Hi,Nl,Nm,Nw,Nx,Be,q11R0.eq_1,q11R1.eq_1,q11R2.eq_1,q11R3.eq_1,q11R4.eq_1,q11R5.eq_1,q11R6.eq_1,q11R7.eq_1,q11R8.eq_1,q11R9.eq_1,q11R10.eq_1,q11R11.eq_1,q11R12.eq_1,q11R13.eq_1,q11R14.eq_1,q11R15.eq_1,q11R16.eq_1,q11R17.eq_1,q11R18.eq_1,q11R19.eq_1,q11R20.eq_1,q11R21.eq_1,q11R22.eq_1,q11R23.eq_1,q11R24.eq_1,q11R25.eq_1,q11R26.eq_1,q11R27.eq_1,q11R28.eq_1,q11R29.eq_1,q11R30.eq_1,q11R31.eq_1,q11R32.eq_1,q11R33.eq_1,q11R34.eq_1,c_ref11_Parser_one.eq_1,hw,s,q,q'])
theorem r2_hiq (hs : isStr d = false) (c : Int) (k4 : 160 ≤ c) : aR G FT n_ref11_Parser_one [.ptr 0 0 0 0, .int .i32 c] [⟨1, 0, false, [[.own 1 0 0 H.length H.length]]⟩, ⟨1, 0, true, rn H⟩] =
    some (.data false 6 (actG (wordT c)) false, [⟨1, 0, false, [[.data false 1 [] true]]⟩, ⟨1, 0, true, rn H⟩]) := by
  rw [run_ref11_Parser_one]
  have hw := word_P G c
  have s := stringed_2q G false H d h1 (by omega) hd []
  rw [hs] at s
  have q : ¬ (H.length : Int) = 0 := by omega
  have q' : ¬ H.length = 0 := by omega
  have k1 : ¬ c = 27 := by omega
  have k2 : ¬ c = 24 := by omega
  have k3 : ¬ c = 26 := by omega
  have k5 : ¬ c < 32 := by omega
  have k6 : ¬ c = 127 := by omega
  (sym => simp [Qb,Qc,Qd,Qe,Qf,Qg,Qi,Qj,Qm,Qn,Qo,Qr,Qt,Qu,Q4,Q5,Q6,Q9,Xa,Xp,Xw,Xx,Xy,X8,Ya,Yd,Yg,Yr,Yt,Yv,Y1,Y5,Y7,Y9,Za,Zb,Zc,Zd,Ze,Zg,Zh,Zi,Zj,Zk,Zl,Zm,Zn,Zo,Zq,Zr,Zs,Zt,Zu,Zv,Zw,Zy,Z0,Z1,Z3,Jb,Jj,Jk,Jl,Jr,Jv,Jx,J6,V6,Wd,We,Hh,Hi,Hk,Nl,Nm,No,Nx,Be,q11R0.eq_1,q11R1.eq_1,q11R2.eq_1,q11R3.eq_1,q11R4.eq_1,q11R5.eq_1,q11R6.eq_1,q11R7.eq_1,q11R8.eq_1,q11R9.eq_1,q11R10.eq_1,q11R11.eq_1,q11R12.eq_1,q11R13.eq_1,q11R14.eq_1,q11R15.eq_1,q11R16.eq_1,q11R17.eq_1,q11R18.eq_1,q11R19.eq_1,q11R20.eq_1,q11R21.eq_1,q11R22.eq_1,q11R23.eq_1,q11R24.eq_1,q11R25.eq_1,q11R26.eq_1,q11R27.eq_1,q11R28.eq_1,q11R29.eq_1,q11R30.eq_1,q11R31.eq_1,q11R32.eq_1,q11R33.eq_1,q11R34.eq_1,c_ref11_Parser_one.eq_1,k1,k2,k3,k4,k5,k6,hw,s,q,q'])
theorem r2_qq (hs : isStr d = false) (c : Int) (k0 : 32 ≤ c) (k1 : ¬ c = 127) (k2 : c < 160) (k3 : d = 91 ∧ c < 64 ∨ d ≠ 91 ∧ c < 48) : aR G FT n_ref11_Parser_one [.ptr 0 0 0 0, .int .i32 c] [⟨1, 0, false, [[.own 1 0 0 H.length H.length]]⟩, ⟨1, 0, true, rn H⟩] =
    some (.data false 6 [] true, [⟨1, 0, false, [[.own 1 1 0 (H.length + 1) (H.length + 1)]]⟩, ⟨1, 1, true, rn H ++ [[.int .i32 c]]⟩, ⟨1, 0, true, [[.int .i32 c]]⟩]) := by
  rw [run_ref11_Parser_one]
  have s := stringed_2q G false H d h1 (by omega) hd []
  rw [hs] at s
  have q : ¬ (H.length : Int) = 0 := by omega
  have q' : ¬ H.length = 0 := by omega
  have j1 : ¬ c = 27 := by omega
  have j2 : ¬ c = 24 := by omega
  have j3 : ¬ c = 26 := by omega
  have j4 : ¬ 160 ≤ c := by omega
  have j5 : ¬ c < 32 := by omega
  have rl := rn_len H
  have rt := rn_take H
  have aq : (H.length + 1) * 4 ≤ 140737488355328 := by omega
  have l2 : (2 : Int) ≤ ((H.length + 1 : Nat) : Int) := by omega
  have l3 : (1 : Int) < ((H.length + 1 : Nat) : Int) := by omega
  have l4 : ¬ ((H.length + 1 : Nat) : Int) = 2 := by omega
  have a1 : (rn H ++ [[AV.int .i32 c]])[1]? = some [.int .i32 d] := by rw [List.getElem?_append_left (by rw [rl]; omega), rn, List.getElem?_map, hd]; rfl
  rcases k3 with ⟨rfl, k3⟩ | ⟨k4, k3⟩
  · (sym => simp [Qb,Qc,Qd,Qe,Qf,Qg,Qh,Qi,Qj,Qm,Qn,Qo,Qr,Qt,Qu,Qz,Q0,Q2,Q4,Q5,Q6,Q9,Xa,Xp,Xs,Xw,Xx,Xy,X0,X8,Ya,Yd,Yg,Yk,Yr,Yt,Yv,Yx,Y1,Y2,Y5,Y7,Y9,Za,Zb,Zc,Zd,Ze,Zg,Zh,Zi,Zj,Zk,Zl,Zm,Zn,Zq,Zr,Zs,Zt,Zu,Zv,Zw,Zx,Zy,Zz,Z0,Z1,Z3,Ja,Jb,Jj,Jk,Jl,Jr,Jv,Jx,J7,Kv,Kx,Ua,Ub,Uc,Ud,Ue,Uf,Ug,Hh,Hi,Hk,Hl,Ho,Hq,Hs,Hu,Hv,H2,H3,H8,Ne,Ng,Nh,Nl,Nm,No,Nq,Nw,Nx,Nz,N2,Be,Bg,Bi,q11R0.eq_1,q11R1.eq_1,q11R2.eq_1,q11R3.eq_1,q11R4.eq_1,q11R5.eq_1,q11R6.eq_1,q11R7.eq_1,q11R8.eq_1,q11R9.eq_1,q11R10.eq_1,q11R11.eq_1,q11R12.eq_1,q11R13.eq_1,q11R14.eq_1,q11R15.eq_1,q11R16.eq_1,q11R17.eq_1,q11R18.eq_1,q11R19.eq_1,q11R20.eq_1,q11R21.eq_1,q11R22.eq_1,q11R23.eq_1,q11R24.eq_1,q11R25.eq_1,q11R26.eq_1,q11R27.eq_1,q11R28.eq_1,q11R29.eq_1,q11R30.eq_1,q11R31.eq_1,q11R32.eq_1,q11R33.eq_1,q11R34.eq_1,c_ref11_Parser_one.eq_1,k1,k3,j1,j2,j3,j4,j5,s,q,q',rl,rt,aq,l2,l3,l4,a1])
  · (sym => simp [Qb,Qc,Qd,Qe,Qf,Qg,Qh,Qi,Qj,Qm,Qn,Qo,Qr,Qt,Qu,Qz,Q0,Q2,Q4,Q5,Q6,Q9,Xa,Xp,Xs,Xw,Xx,Xy,X0,X8,Ya,Yd,Yg,Yk,Yr,Yt,Yv,Yx,Y1,Y2,Y5,Y7,Y9,Za,Zb,Zc,Zd,Ze,Zg,Zh,Zi,Zj,Zk,Zl,Zm,Zn,Zq,Zr,Zs,Zt,Zu,Zv,Zw,Zx,Zy,Zz,Z0,Z1,Z3,Ja,Jb,Jj,Jk,Jl,Jr,Jv,Jx,J7,Kv,Kx,Ua,Ub,Uc,Ud,Ue,Uf,Ug,Hh,Hi,Hk,Hl,Ho,Hq,Hs,Hu,Hv,H2,H3,H8,Ne,Ng,Nh,Nl,Nm,No,Nq,Nw,Nx,Nz,N2,Be,Bg,Bi,q11R0.eq_1,q11R1.eq_1,q11R2.eq_1,q11R3.eq_1,q11R4.eq_1,q11R5.eq_1,q11R6.eq_1,q11R7.eq_1,q11R8.eq_1,q11R9.eq_1,q11R10.eq_1,q11R11.eq_1,q11R12.eq_1,q11R13.eq_1,q11R14.eq_1,q11R15.eq_1,q11R16.eq_1,q11R17.eq_1,q11R18.eq_1,q11R19.eq_1,q11R20.eq_1,q11R21.eq_1,q11R22.eq_1,q11R23.eq_1,q11R24.eq_1,q11R25.eq_1,q11R26.eq_1,q11R27.eq_1,q11R28.eq_1,q11R29.eq_1,q11R30.eq_1,q11R31.eq_1,q11R32.eq_1,q11R33.eq_1,q11R34.eq_1,c_ref11_Parser_one.eq_1,k1,k3,k4,j1,j2,j3,j4,j5,s,q,q',rl,rt,aq,l2,l3,l4,a1])
end
end
section
variable (G : Nat → Option (List AV)) (fl : Bool)
section
variable (H : List Int) (d : Int) (h1 : 2 ≤ H.length) (h2 : H.length ≤ 9000) (hd : H[1]? = some d)
include h1 h2 hd
theorem r2_csiq (c : Int) (k0 : 64 ≤ c) (k1 : ¬ c = 127) (k2 : c < 160) (k3 : d = 91) (hr : ∀ x ∈ H, x < 1000) : aR G FT n_ref11_Parser_one [.ptr 0 0 0 0, .int .i32 c] [⟨1, 0, false, [[.own 1 0 0 H.length H.length]]⟩, ⟨1, 0, true, rn H⟩] =
    some (.data false 6 (actG (csiT ((H ++ [c]).drop 2) c)) false, [⟨1, 0, false, [[.data false 1 [] true]]⟩, ⟨1, 1, true, rn H ++ [[.int .i32 c]]⟩, ⟨1, 0, true, [[.int .i32 c]]⟩]) := by
  subst k3
  rw [run_ref11_Parser_one]
  have s := stringed_2q G false H 91 h1 (by omega) hd []
  have i91 : isStr 91 = false := rfl
  rw [i91] at s
  have q : ¬ (H.length : Int) = 0 := by omega
  have q' : ¬ H.length = 0 := by omega
  have j1 : ¬ c = 27 := by omega
  have j2 : ¬ c = 24 := by omega
  have j3 : ¬ c = 26 := by omega
  have j4 : ¬ 160 ≤ c := by omega
  have j5 : ¬ c < 32 := by omega
  have j6 : ¬ c < 64 := by omega
  have rl := rn_len H
  have rt := rn_take H
  have aq : (H.length + 1) * 4 ≤ 140737488355328 := by omega
  have l2 : (2 : Int) ≤ ((H.length + 1 : Nat) : Int) := by omega
  have l3 : (1 : Int) < ((H.length + 1 : Nat) : Int) := by omega
  have l4 : ¬ ((H.length + 1 : Nat) : Int) = 2 := by omega
  have l5 : 2 ≤ H.length + 1 := by omega
  have a1 : (rn H ++ [[AV.int .i32 c]])[1]? = some [.int .i32 91] := by rw [List.getElem?_append_left (by rw [rl]; omega), rn, List.getElem?_map, hd]; rfl
  have l6 : 2 + (H.length + 1 - 2) ≤ H.length + 1 := by omega
  have a2 : ((rn H ++ [[AV.int .i32 c]]).drop 2).take (H.length + 1 - 2) = rn ((H ++ [c]).drop 2) := by
    rw [List.take_of_length_le (by simp [rl]), show rn H ++ [[AV.int .i32 c]] = rn (H ++ [c]) from by simp [rn]]
    simp [rn, List.map_drop]
  have hl : ((H ++ [c]).drop 2).length = H.length - 1 := by rw [List.length_drop, List.length_append, List.length_singleton]; omega
  have he := fun b f => csi_P G c ((H ++ [c]).drop 2) b f (by omega) (by intro h; rw [h, List.length_nil] at hl; omega) (fun x hx => by
    rcases List.mem_append.1 (List.mem_of_mem_drop hx) with h | h
    · exact hr x h
    · simp at h; omega) (by rw [hl, List.getElem?_drop, List.getElem?_append_right (by omega), show 2 + (H.length - 1 - 1) - H.length = 0 from by omega]; rfl)
  (sym => simp [Qb,Qc,Qd,Qe,Qf,Qg,Qi,Qj,Qm,Qn,Qo,Qr,Qt,Qu,Qz,Q0,Q2,Q4,Q5,Q6,Q9,Xa,Xl,Xm,Xn,Xp,Xs,Xw,Xx,Xy,X0,X8,Ya,Yd,Yg,Yk,Yr,Yt,Yv,Yx,Y1,Y2,Y5,Y7,Y9,Za,Zb,Zc,Zd,Ze,Zg,Zh,Zi,Zj,Zk,Zl,Zm,Zn,Zo,Zq,Zr,Zs,Zt,Zu,Zv,Zw,Zx,Zy,Zz,Z0,Z1,Z3,Ja,Jb,Jj,Jk,Jl,Jr,Jv,Jx,J6,J7,Kv,Kx,K0,K1,K2,Ua,Ub,Uc,Ud,Ue,Uf,Ug,V1,Wd,We,Hh,Hi,Hk,Hl,Ho,Hq,Hs,Hu,Hv,Hx,H2,H3,H8,Ng,Nh,Nl,Nm,No,Nq,Nx,Nz,N2,Be,Bg,Bi,q11R0.eq_1,q11R1.eq_1,q11R2.eq_1,q11R3.eq_1,q11R4.eq_1,q11R5.eq_1,q11R6.eq_1,q11R7.eq_1,q11R8.eq_1,q11R9.eq_1,q11R10.eq_1,q11R11.eq_1,q11R12.eq_1,q11R13.eq_1,q11R14.eq_1,q11R15.eq_1,q11R16.eq_1,q11R17.eq_1,q11R18.eq_1,q11R19.eq_1,q11R20.eq_1,q11R21.eq_1,q11R22.eq_1,q11R23.eq_1,q11R24.eq_1,q11R25.eq_1,q11R26.eq_1,q11R27.eq_1,q11R28.eq_1,q11R29.eq_1,q11R30.eq_1,q11R31.eq_1,q11R32.eq_1,q11R33.eq_1,q11R34.eq_1,c_ref11_Parser_one.eq_1,k1,j1,j2,j3,j4,j5,j6,s,q,q',rl,rt,aq,l2,l3,l4,l5,l6,a1,a2,he])
theorem r2_escq (hs : isStr d = false) (c : Int) (k0 : 48 ≤ c) (k1 : ¬ c = 127) (k2 : c < 160) (k3 : ¬ d = 91) : aR G FT n_ref11_Parser_one [.ptr 0 0 0 0, .int .i32 c] [⟨1, 0, false, [[.own 1 0 0 H.length H.length]]⟩, ⟨1, 0, true, rn H⟩] =
    some (.data false 6 (actG (escT ((H ++ [c]).drop 1) c)) false, [⟨1, 0, false, [[.data false 1 [] true]]⟩, ⟨1, 1, true, rn H ++ [[.int .i32 c]]⟩, ⟨1, 0, true, [[.int .i32 c]]⟩]) := by
  rw [run_ref11_Parser_one]
  have s := stringed_2q G false H d h1 (by omega) hd []
  rw [hs] at s
  have q : ¬ (H.length : Int) = 0 := by omega
  have q' : ¬ H.length = 0 := by omega
  have j1 : ¬ c = 27 := by omega
  have j2 : ¬ c = 24 := by omega
  have j3 : ¬ c = 26 := by omega
  have j4 : ¬ 160 ≤ c := by omega
  have j5 : ¬ c < 32 := by omega
  have j6 : ¬ c < 48 := by omega
  have rl := rn_len H
  have rt := rn_take H
  have aq : (H.length + 1) * 4 ≤ 140737488355328 := by omega
  have l2 : (2 : Int) ≤ ((H.length + 1 : Nat) : Int) := by omega
  have l3 : (1 : Int) < ((H.length + 1 : Nat) : Int) := by omega
  have l4 : ¬ ((H.length + 1 : Nat) : Int) = 2 := by omega
  have l5 : 1 ≤ H.length + 1 := by omega
  have a1 : (rn H ++ [[AV.int .i32 c]])[1]? = some [.int .i32 d] := by rw [List.getElem?_append_left (by rw [rl]; omega), rn, List.getElem?_map, hd]; rfl
  have l6 : 1 + (H.length + 1 - 1) ≤ H.length + 1 := by omega
  have l7 : 1 + H.length ≤ H.length + 1 := by omega
  have a2 : ((rn H ++ [[AV.int .i32 c]]).drop 1).take H.length = rn ((H ++ [c]).drop 1) := by
    rw [List.take_of_length_le (by simp [rl]), show rn H ++ [[AV.int .i32 c]] = rn (H ++ [c]) from by simp [rn]]
    simp [rn, List.map_drop]
  have a3 : H.length + 1 - 1 = H.length := rfl
  have hl : ((H ++ [c]).drop 1).length = H.length := by simp
  have he := fun b f => resc_P G c ((H ++ [c]).drop 1) b f (by omega) (by intro h; rw [h, List.length_nil] at hl; omega) (by rw [hl, List.getElem?_drop, List.getElem?_append_right (by omega), show 1 + (H.length - 1) - H.length = 0 from by omega]; rfl)
  (sym => simp [Qb,Qc,Qd,Qe,Qf,Qg,Qh,Qi,Qj,Qm,Qn,Qo,Qr,Qt,Qu,Qz,Q0,Q2,Q4,Q5,Q6,Q9,Xa,Xl,Xm,Xn,Xp,Xs,Xw,Xx,Xy,X0,X8,Ya,Yd,Yg,Yk,Yr,Yt,Yv,Yx,Y1,Y2,Y5,Y7,Y9,Za,Zb,Zc,Zd,Ze,Zg,Zh,Zi,Zj,Zk,Zl,Zm,Zn,Zo,Zq,Zr,Zs,Zt,Zu,Zv,Zw,Zx,Zy,Zz,Z0,Z1,Z3,Ja,Jb,Jj,Jk,Jr,Jv,Jx,J6,J7,Kv,Kx,K0,K1,K2,Ua,Ub,Uc,Ud,Ue,Uf,Ug,V1,Wd,We,Hh,Hi,Hk,Hl,Ho,Hq,Hs,Hu,Hv,Hx,H2,H3,H8,Ng,Nh,Nl,Nm,No,Nq,Nx,Nz,N2,Be,Bg,Bi,q11R0.eq_1,q11R1.eq_1,q11R2.eq_1,q11R3.eq_1,q11R4.eq_1,q11R5.eq_1,q11R6.eq_1,q11R7.eq_1,q11R8.eq_1,q11R9.eq_1,q11R10.eq_1,q11R11.eq_1,q11R12.eq_1,q11R13.eq_1,q11R14.eq_1,q11R15.eq_1,q11R16.eq_1,q11R17.eq_1,q11R18.eq_1,q11R19.eq_1,q11R20.eq_1,q11R21.eq_1,q11R22.eq_1,q11R23.eq_1,q11R24.eq_1,q11R25.eq_1,q11R26.eq_1,q11R27.eq_1,q11R28.eq_1,q11R29.eq_1,q11R30.eq_1,q11R31.eq_1,q11R32.eq_1,q11R33.eq_1,q11R34.eq_1,c_ref11_Parser_one.eq_1,k1,k3,j1,j2,j3,j4,j5,j6,s,q,q',rl,rt,aq,l2,l3,l4,l5,l6,l7,a1,a2,a3,he])
-- strings
theorem r2s_7nq (hs : isStr d = true) (hn : ¬ d = 93) : aR G FT n_ref11_Parser_one [.ptr 0 0 0 0, .int .i32 7] [⟨1, 0, false, [[.own 1 0 0 H.length H.length]]⟩, ⟨1, 0, true, rn H⟩] =
    some (.data false 6 [] true, [⟨1, 0, false, [[.data false 1 [] true]]⟩, ⟨1, 0, true, rn H⟩]) := by
  rw [run_ref11_Parser_one]
  have s := stringed_2q G false H d h1 (by omega) hd []
  rw [hs] at s
  have ht := told_noq G H d h1 (by omega) hd hn
  have q : ¬ (H.length : Int) = 0 := by omega
  have q' : ¬ H.length = 0 := by omega
  (sym => simp [Qb,Qc,Qd,Qe,Qf,Qg,Qi,Qj,Qm,Qn,Qo,Qr,Qt,Qu,Q4,Q5,Q6,Q9,Xa,Xp,Xw,Xx,Xy,X8,Yg,Yr,Yt,Yv,Y1,Y5,Y7,Y9,Za,Zb,Zc,Zd,Ze,Zg,Zh,Zi,Zj,Zk,Zl,Zm,Zn,Zq,Zr,Zs,Zt,Zu,Zv,Zw,Zy,Z0,Z1,Z3,Jb,Jj,Jk,Jl,Jr,Jv,Jx,J6,Hh,Hi,Hk,Nl,Nm,No,Nx,Be,q11R0.eq_1,q11R1.eq_1,q11R2.eq_1,q11R3.eq_1,q11R4.eq_1,q11R5.eq_1,q11R6.eq_1,q11R7.eq_1,q11R8.eq_1,q11R9.eq_1,q11R10.eq_1,q11R11.eq_1,q11R12.eq_1,q11R13.eq_1,q11R14.eq_1,q11R15.eq_1,q11R16.eq_1,q11R17.eq_1,q11R18.eq_1,q11R19.eq_1,q11R20.eq_1,q11R21.eq_1,q11R22.eq_1,q11R23.eq_1,q11R24.eq_1,q11R25.eq_1,q11R26.eq_1,q11R27.eq_1,q11R28.eq_1,q11R29.eq_1,q11R30.eq_1,q11R31.eq_1,q11R32.eq_1,q11R33.eq_1,q11R34.eq_1,c_ref11_Parser_one.eq_1,s,q,q',ht])
theorem r2s_addq (hs : isStr d = true) (c : Int) (k0 : 32 ≤ c) (k1 : ¬ c = 127) : aR G FT n_ref11_Parser_one [.ptr 0 0 0 0, .int .i32 c] [⟨1, 0, false, [[.own 1 0 0 H.length H.length]]⟩, ⟨1, 0, true, rn H⟩] =
    some (.data false 6 [] true, [⟨1, 0, false, [[.own 1 1 0 (H.length + 1) (H.length + 1)]]⟩, ⟨1, 1, true, rn H ++ [[.int .i32 c]]⟩, ⟨1, 0, true, [[.int .i32 c]]⟩]) := by
  rw [run_ref11_Parser_one]
  have s := stringed_2q G false H d h1 (by omega) hd []
  rw [hs] at s
  have q : ¬ (H.length : Int) = 0 := by omega
  have q' : ¬ H.length = 0 := by omega
  have j1 : ¬ c = 27 := by omega
  have j2 : ¬ c = 24 := by omega
  have j3 : ¬ c = 26 := by omega
  have j4 : ¬ c = 7 := by omega
  have rl := rn_len H
  have rt := rn_take H
  have aq : (H.length + 1) * 4 ≤ 140737488355328 := by omega
  (sym => simp [Qb,Qc,Qd,Qe,Qf,Qg,Qi,Qj,Qm,Qn,Qo,Qr,Qt,Qu,Qz,Q0,Q2,Q4,Q5,Q6,Q9,Xa,Xp,Xw,Xx,Xy,X0,X8,X9,Yd,Yg,Yk,Yr,Yt,Yv,Y1,Y2,Y5,Y7,Y9,Za,Zb,Zc,Zd,Ze,Zg,Zh,Zi,Zj,Zk,Zl,Zm,Zn,Zq,Zr,Zs,Zt,Zu,Zv,Zw,Zx,Zy,Zz,Z0,Z1,Z3,Ja,Jb,Jj,Jk,Jl,Jr,Jv,Jx,J7,Kv,Kx,Ua,Ub,Uc,Ud,Ue,Uf,Ug,Hh,Hi,Hk,Hl,Ho,Hq,Hs,Hu,Hv,H2,H3,H8,Ng,Nh,Nl,Nm,No,Nq,Nx,Nz,N2,Be,Bg,q11R0.eq_1,q11R1.eq_1,q11R2.eq_1,q11R3.eq_1,q11R4.eq_1,q11R5.eq_1,q11R6.eq_1,q11R7.eq_1,q11R8.eq_1,q11R9.eq_1,q11R10.eq_1,q11R11.eq_1,q11R12.eq_1,q11R13.eq_1,q11R14.eq_1,q11R15.eq_1,q11R16.eq_1,q11R17.eq_1,q11R18.eq_1,q11R19.eq_1,q11R20.eq_1,q11R21.eq_1,q11R22.eq_1,q11R23.eq_1,q11R24.eq_1,q11R25.eq_1,q11R26.eq_1,q11R27.eq_1,q11R28.eq_1,q11R29.eq_1,q11R30.eq_1,q11R31.eq_1,q11R32.eq_1,q11R33.eq_1,q11R34.eq_1,c_ref11_Parser_one.eq_1,k0,k1,j1,j2,j3,j4,s,q,q',rl,rt,aq])
theorem r2s_noq (hs : isStr d = true) (c : Int) (k1 : ¬ c = 27) (k2 : ¬ c = 24) (k3 : ¬ c = 26) (k4 : ¬ c = 7) (k5 : c < 32 ∨ c = 127) : aR G FT n_ref11_Parser_one [.ptr 0 0 0 0, .int .i32 c] [⟨1, 0, false, [[.own 1 0 0 H.length H.length]]⟩, ⟨1, 0, true, rn H⟩] =
    some (.data false 6 [] true, [⟨1, 0, false, [[.own 1 0 0 H.length H.length]]⟩, ⟨1, 0, true, rn H⟩]) := by
  rw [run_ref11_Parser_one]
  have s := stringed_2q G false H d h1 (by omega) hd []
  rw [hs] at s
  have q : ¬ (H.length : Int) = 0 := by omega
  have q' : ¬ H.length = 0 := by omega
  rcases k5 with k5 | rfl
  · have k6 : ¬ 32 ≤ c := by omega
    (sym => simp [Qb,Qc,Qd,Qe,Qf,Qg,Qi,Qj,Qm,Qn,Qo,Qr,Qt,Qu,Q4,Q6,Q9,Xa,Xp,Xw,Xx,Xy,X8,X9,Yd,Yg,Yr,Yt,Yv,Y1,Y5,Y7,Y9,Za,Zb,Zc,Ze,Zg,Zh,Zi,Zj,Zk,Zl,Zm,Zn,Zq,Zr,Zs,Zt,Zu,Zv,Zw,Zy,Z0,Z3,Ja,Jb,Jj,Jk,Jl,Jr,Jv,Jx,Hh,Hi,Nl,Nm,Nw,Nx,Be,q11R0.eq_1,q11R1.eq_1,q11R2.eq_1,q11R3.eq_1,q11R4.eq_1,q11R5.eq_1,q11R6.eq_1,q11R7.eq_1,q11R8.eq_1,q11R9.eq_1,q11R10.eq_1,q11R11.eq_1,q11R12.eq_1,q11R13.eq_1,q11R14.eq_1,q11R15.eq_1,q11R16.eq_1,q11R17.eq_1,q11R18.eq_1,q11R19.eq_1,q11R20.eq_1,q11R21.eq_1,q11R22.eq_1,q11R23.eq_1,q11R24.eq_1,q11R25.eq_1,q11R26.eq_1,q11R27.eq_1,q11R28.eq_1,q11R29.eq_1,q11R30.eq_1,q11R31.eq_1,q11R32.eq_1,q11R33.eq_1,q11R34.eq_1,c_ref11_Parser_one.eq_1,k1,k2,k3,k4,k6,s,q,q'])
  · (sym => simp [Qb,Qc,Qd,Qe,Qf,Qg,Qi,Qj,Qm,Qn,Qo,Qr,Qt,Qu,Q4,Q6,Q9,Xa,Xp,Xw,Xx,Xy,X8,X9,Yd,Yg,Yr,Yt,Yv,Y1,Y5,Y7,Y9,Za,Zb,Zc,Ze,Zg,Zh,Zi,Zj,Zk,Zl,Zm,Zn,Zq,Zr,Zs,Zt,Zu,Zv,Zw,Zy,Z0,Z3,Ja,Jb,Jj,Jk,Jl,Jr,Jv,Jx,Hh,Hi,Nl,Nm,Nw,Nx,Be,q11R0.eq_1,q11R1.eq_1,q11R2.eq_1,q11R3.eq_1,q11R4.eq_1,q11R5.eq_1,q11R6.eq_1,q11R7.eq_1,q11R8.eq_1,q11R9.eq_1,q11R10.eq_1,q11R11.eq_1,q11R12.eq_1,q11R13.eq_1,q11R14.eq_1,q11R15.eq_1,q11R16.eq_1,q11R17.eq_1,q11R18.eq_1,q11R19.eq_1,q11R20.eq_1,q11R21.eq_1,q11R22.eq_1,q11R23.eq_1,q11R24.eq_1,q11R25.eq_1,q11R26.eq_1,q11R27.eq_1,q11R28.eq_1,q11R29.eq_1,q11R30.eq_1,q11R31.eq_1,q11R32.eq_1,q11R33.eq_1,q11R34.eq_1,c_ref11_Parser_one.eq_1,s,q,q'])
end
theorem r2s_7yq (H : List Int) (h1 : 2 ≤ H.length) (h2 : H.length ≤ 9000) (hd : H[1]? = some 93) : aR G FT n_ref11_Parser_one [.ptr 0 0 0 0, .int .i32 7] [⟨1, 0, false, [[.own 1 0 0 H.length H.length]]⟩, ⟨1, 0, true, rn H⟩] =
    some (.own 3 0 0 1 1, [⟨1, 0, false, [[.data false 1 [] true]]⟩, ⟨1, 0, true, rn H⟩, ⟨1, 0, true, rn (heldT H)⟩,
      ⟨6, 0, false, [[.int .i64 5, .int .i32 0, .int .i32 0, .str ⟨#[]⟩, .data false 1 [] true, .own 2 0 0 (min H.length 66 - 2) (min H.length 66 - 2)]]⟩]) := by
  rw [run_ref11_Parser_one]
  have s := stringed_2q G false H 93 h1 (by omega) hd []
  have i93 : isStr 93 = true := rfl
  rw [i93] at s
  have ht := told_yesq G H h1 (by omega) hd
  have q : ¬ (H.length : Int) = 0 := by omega
  have q' : ¬ H.length = 0 := by omega
  (sym => simp [Qb,Qc,Qd,Qe,Qf,Qg,Qi,Qj,Qm,Qn,Qo,Qr,Qt,Qu,Q4,Q5,Q6,Q9,Xa,Xp,Xw,Xx,Xy,X8,Yg,Yr,Yt,Yv,Y1,Y5,Y7,Y9,Za,Zb,Zc,Zd,Ze,Zg,Zh,Zi,Zj,Zk,Zl,Zm,Zn,Zq,Zr,Zs,Zt,Zu,Zv,Zw,Zy,Z0,Z1,Z3,Jb,Jj,Jk,Jl,Jr,Jv,Jx,J6,Hh,Hi,Hk,Nl,Nm,No,Nx,Be,q11R0.eq_1,q11R1.eq_1,q11R2.eq_1,q11R3.eq_1,q11R4.eq_1,q11R5.eq_1,q11R6.eq_1,q11R7.eq_1,q11R8.eq_1,q11R9.eq_1,q11R10.eq_1,q11R11.eq_1,q11R12.eq_1,q11R13.eq_1,q11R14.eq_1,q11R15.eq_1,q11R16.eq_1,q11R17.eq_1,q11R18.eq_1,q11R19.eq_1,q11R20.eq_1,q11R21.eq_1,q11R22.eq_1,q11R23.eq_1,q11R24.eq_1,q11R25.eq_1,q11R26.eq_1,q11R27.eq_1,q11R28.eq_1,q11R29.eq_1,q11R30.eq_1,q11R31.eq_1,q11R32.eq_1,q11R33.eq_1,q11R34.eq_1,c_ref11_Parser_one.eq_1,s,q,q',ht])
end
section
variable (G : Nat → Option (List AV)) (fl : Bool)
def rHeapq (H : List Int) : List ARow :=
  match H with
  | [] => [⟨1, 0, fl, [[.data false 1 [] true]]⟩]
  | x :: H => [⟨1, 0, false, [[.own 1 0 0 (x :: H).length (x :: H).length]]⟩, ⟨1, 0, true, rn (x :: H)⟩]
def RStq (h : List ARow) : List Int → Prop
  | [] => ∃ fl R, h = ⟨1, 0, fl, [[.data false 1 [] true]]⟩ :: R
  | x :: H => ∃ i g' R, h = ⟨1, 0, false, [[.own i g' 0 (x :: H).length (x :: H).length]]⟩ :: R ∧ 1 ≤ i ∧ h[i]? = some ⟨1, g', true, rn (x :: H)⟩
theorem rheap_consq {H : List Int} (h : H ≠ []) : rHeapq fl H = [⟨1, 0, false, [[.own 1 0 0 H.length H.length]]⟩, ⟨1, 0, true, rn H⟩] := by
  cases H with
  | nil => exact absurd rfl h
  | cons x H => rfl
theorem rst_consq {H : List Int} (h0 : H ≠ []) {h : List ARow} (i g' : Nat) (R : List ARow) (e : h = ⟨1, 0, false, [[.own i g' 0 H.length H.length]]⟩ :: R) (hi : 1 ≤ i) (hr : h[i]? = some ⟨1, g', true, rn H⟩) : RStq h H := by
  cases H with
  | nil => exact absurd rfl h0
  | cons x H => exact ⟨i, g', R, e, hi, hr⟩
def ROneOkq (r : Option (AV × List ARow)) (x : List Act' × List Int) : Prop :=
  ∃ v h1 b h2, r = some (v, h1) ∧ amelt h1 v = some (.data false 6 (actG x.1) b, h2) ∧ RStq h2 x.2
theorem melt_roscq (p a b : ARow) (ts : List Int) : amelt [p, a, ⟨1, 0, true, rn ts⟩, ⟨6, 0, false, [[.int .i64 5, .int .i32 0, .int .i32 0, .str ⟨#[]⟩, .data false 1 [] true, .own 2 0 0 ts.length ts.length]]⟩, b] (.own 3 0 0 1 1) =
    some (.data false 6 (actG [oscT ts]) false, [p, a, ⟨1, 1, true, []⟩, ⟨6, 1, true, []⟩, b]) := by
  have l1 := rn_len ts
  have l2 := rn_take ts
  have ae : actG [oscT ts] = [[.int .i64 5, .int .i32 0, .int .i32 0, .str ⟨#[]⟩, .data false 1 [] true, .data false 1 (rn ts) false]] := rfl
  rw [ae]
  (sym => simp [Ze,Zg,Zh,Zm,Zn,Zv,Zw,Zx,Zy,Zz,Z0,Z3,Hh,Hi,Hk,Hl,Ho,Hq,Hs,Hv,Hw,H8,Ng,Nz,Bo,Bp,Br,Bt,Bw,Bx,By,Bz,BA,BB,BC,l1,l2])
theorem melt_rosc'q (p a : ARow) (ts : List Int) : amelt [p, a, ⟨1, 0, true, rn ts⟩, ⟨6, 0, false, [[.int .i64 5, .int .i32 0, .int .i32 0, .str ⟨#[]⟩, .data false 1 [] true, .own 2 0 0 ts.length ts.length]]⟩] (.own 3 0 0 1 1) =
    some (.data false 6 (actG [oscT ts]) false, [p, a, ⟨1, 1, true, []⟩, ⟨6, 1, true, []⟩]) := by
  have l1 := rn_len ts
  have l2 := rn_take ts
  have ae : actG [oscT ts] = [[.int .i64 5, .int .i32 0, .int .i32 0, .str ⟨#[]⟩, .data false 1 [] true, .data false 1 (rn ts) false]] := rfl
  rw [ae]
  (sym => simp [Ze,Zg,Zh,Zm,Zn,Zv,Zw,Zx,Zy,Zz,Z0,Z3,Hh,Hi,Hk,Hl,Ho,Hq,Hs,Hv,Hw,H8,Ng,Nz,Bo,Bp,Br,Bt,Bw,Bx,By,Bz,BA,BB,BC,l1,l2])
theorem rone_okq (H : List Int) (ok : rOk H) (c : Int) (hc : c < 128 ∨ 160 ≤ c) : ROneOkq (aR G FT n_ref11_Parser_one [.ptr 0 0 0 0, .int .i32 c] (rHeapq fl H)) (rOne H c) := by
  obtain ⟨hl, hx⟩ := ok
  unfold rOne
  have two : H ≠ [] → (H[1]? = none ∧ ∃ x, H = [x]) ∨ ∃ d, H[1]? = some d ∧ 2 ≤ H.length := fun h0 => by
    match H with
    | [] => exact absurd rfl h0
    | [x] => exact .inl ⟨rfl, x, rfl⟩
    | x :: y :: r => exact .inr ⟨y, rfl, by simp⟩
  by_cases k27 : c = 27
  · rw [if_pos k27]
    subst k27
    by_cases h0 : H = []
    · subst h0
      exact ⟨_, _, _, _, r0_27q G fl, melt_D0 _, rst_consq (by simp) _ _ _ rfl (Nat.le_refl _) rfl⟩
    rw [rheap_consq fl h0]
    rcases two h0 with ⟨_, x, rfl⟩ | ⟨d, hd, h2⟩
    · exact ⟨_, _, _, _, r1_27q G _, melt_D0 _, rst_consq (by simp) 2 0 _ rfl (by omega) rfl⟩
    · by_cases e : d = 93
      · subst e
        have hlen := held_len H h2
        have t : rTold H = [oscT (heldT H)] := by unfold rTold; rw [if_pos hd]
        rw [t]
        have r := r2_27yq G H h2 (by omega) hd
        rw [← hlen] at r
        exact ⟨_, _, _, _, r, melt_roscq _ _ _ _, rst_consq (by simp) 4 0 _ rfl (by omega) rfl⟩
      · have t : rTold H = [] := by unfold rTold; rw [if_neg (by rw [hd]; simpa using e)]
        rw [t]
        exact ⟨_, _, _, _, r2_27nq G H d h2 (by omega) hd e, melt_D0 _, rst_consq (by simp) 2 0 _ rfl (by omega) rfl⟩
  rw [if_neg k27]
  by_cases h0 : H = []
  · rw [if_pos h0]
    subst h0
    exact ⟨_, _, _, _, r0_wordq G fl c k27, melt_data _ _ _, _, _, rfl⟩
  rw [if_neg h0, rheap_consq fl h0]
  by_cases k2 : c = 24 ∨ c = 26
  · rw [if_pos k2]
    exact ⟨_, _, _, _, r_canq G H h0 c k2, melt_data _ _ _, _, _, rfl⟩
  rw [if_neg k2]
  have k3 : ¬ c = 24 := fun h => k2 (.inl h)
  have k4 : ¬ c = 26 := fun h => k2 (.inr h)
  rcases two h0 with ⟨hd, x, rfl⟩ | ⟨d, hd, h2⟩
  · rw [hd]
    simp only
    by_cases c1 : c < 32 ∨ c = 127
    · rw [if_pos c1]; exact ⟨_, _, _, _, r1_lowq G c k27 k3 k4 c1 _, melt_data _ _ _, rst_consq (by simp) 1 0 _ rfl (Nat.le_refl _) rfl⟩
    rw [if_neg c1]
    by_cases c2 : 160 ≤ c
    · rw [if_pos c2]; exact ⟨_, _, _, _, r1_hiq G c c2 _, melt_data _ _ _, _, _, rfl⟩
    rw [if_neg c2]
    by_cases c3 : c < 48 ∨ c = 91 ∨ isStr c = true
    · rw [if_pos c3]; exact ⟨_, _, _, _, r1_qq G c (by omega) (by omega) (by omega) c3 _, melt_D0 _, rst_consq (by simp) 1 1 _ rfl (Nat.le_refl _) rfl⟩
    · rw [if_neg c3]
      exact ⟨_, _, _, _, r1_escq G c (by omega) (by omega) (by omega) (by omega) (by simpa using fun h => c3 (.inr (.inr h))) _, melt_data _ _ _, _, _, rfl⟩
  · rw [hd]
    simp only
    have ap : rn H ++ [[.int .i32 c]] = rn (H ++ [c]) := by simp [rn]
    have al : H.length + 1 = (H ++ [c]).length := by simp
    by_cases s : isStr d = true
    · rw [if_pos s]
      by_cases c1 : c = 7
      · rw [if_pos c1]
        subst c1
        by_cases e : d = 93
        · subst e
          have hlen := held_len H h2
          have t : rTold H = [oscT (heldT H)] := by unfold rTold; rw [if_pos hd]
          rw [t]
          have r := r2s_7yq G H h2 hl hd
          rw [← hlen] at r
          exact ⟨_, _, _, _, r, melt_rosc'q _ _ _, _, _, rfl⟩
        · have t : rTold H = [] := by unfold rTold; rw [if_neg (by rw [hd]; simpa using e)]
          rw [t]
          exact ⟨_, _, _, _, r2s_7nq G H d h2 hl hd s e, melt_D0 _, _, _, rfl⟩
      rw [if_neg c1]
      by_cases c2 : 32 ≤ c ∧ c ≠ 127
      · rw [if_pos c2]
        have r := r2s_addq G H d h2 hl hd s c c2.1 c2.2
        rw [ap, al] at r
        exact ⟨_, _, _, _, r, melt_D0 _, rst_consq (by simp) 1 1 _ rfl (Nat.le_refl _) rfl⟩
      · rw [if_neg c2]
        exact ⟨_, _, _, _, r2s_noq G H d h2 hl hd s c k27 k3 k4 c1 (by omega), melt_D0 _, rst_consq h0 1 0 _ rfl (Nat.le_refl _) rfl⟩
    · rw [if_neg s]
      have s' : isStr d = false := by simpa using s
      by_cases c1 : c < 32 ∨ c = 127
      · rw [if_pos c1]; exact ⟨_, _, _, _, r2_lowq G H d h2 (by omega) hd s' c k27 k3 k4 c1, melt_data _ _ _, rst_consq h0 1 0 _ rfl (Nat.le_refl _) rfl⟩
      rw [if_neg c1]
      by_cases c2 : 160 ≤ c
      · rw [if_pos c2]; exact ⟨_, _, _, _, r2_hiq G H d h2 (by omega) hd s' c c2, melt_data _ _ _, _, _, rfl⟩
      rw [if_neg c2]
      by_cases c3 : d = 91
      · rw [if_pos c3]
        by_cases c4 : c < 64
        · rw [if_pos c4]
          have r := r2_qq G H d h2 (by omega) hd s' c (by omega) (by omega) (by omega) (.inl ⟨c3, c4⟩)
          rw [ap, al] at r
          exact ⟨_, _, _, _, r, melt_D0 _, rst_consq (by simp) 1 1 _ rfl (Nat.le_refl _) rfl⟩
        · rw [if_neg c4]
          have hx' : ∀ x ∈ H, x < 1000 := fun x h => by
            rcases hx x h with h | ⟨d', e, h⟩
            · exact h
            · rw [hd] at e; cases e; exact absurd h s
          exact ⟨_, _, _, _, r2_csiq G H d h2 hl hd c (by omega) (by omega) (by omega) c3 hx', melt_data _ _ _, _, _, rfl⟩
      · rw [if_neg c3]
        by_cases c4 : c < 48
        · rw [if_pos c4]
          have r := r2_qq G H d h2 (by omega) hd s' c (by omega) (by omega) (by omega) (.inr ⟨c3, c4⟩)
          rw [ap, al] at r
          exact ⟨_, _, _, _, r, melt_D0 _, rst_consq (by simp) 1 1 _ rfl (Nat.le_refl _) rfl⟩
        · rw [if_neg c4]
          exact ⟨_, _, _, _, r2_escq G H d h2 hl hd s' c (by omega) (by omega) (by omega) c3, melt_data _ _ _, _, _, rfl⟩
end
section
variable (G : Nat → Option (List AV)) (fl : Bool)
theorem stringed_kq (R : List ARow) : aR G FT n_ref11_Parser_stringed [.ptr 0 0 0 0] (⟨1, 0, false, [[.own (R.length + 1) 0 0 1 1]]⟩ :: (R ++ [⟨1, 0, true, [[.int .i32 27]]⟩])) =
    some (.tup [.bool false, .bool false], ⟨1, 0, false, [[.own (R.length + 1) 0 0 1 1]]⟩ :: (R ++ [⟨1, 0, true, [[.int .i32 27]]⟩])) := by
  rw [run_ref11_Parser_stringed]
  (sym => simp [Qb,Qd,Qe,Qi,Qj,Qr,Qt,Q4,Q6,Q9,Xa,Xp,Xy,Ya,Yg,Yr,Yt,Yv,Y1,Y6,Y7,Y9,Za,Zb,Zc,Ze,Zg,Zh,Zi,Zj,Zk,Zl,Zm,Zn,Zr,Zs,Zt,Zu,Zv,Zw,Zy,Z0,Jj,Jk,Jl,Jr,Jv,Jx,Hh,Hx,Nl,Be,Bh,q12R0.eq_1,q12R1.eq_1,q12R2.eq_1,q12R3.eq_1,q12R4.eq_1,c_ref11_Parser_stringed.eq_1])
theorem rk_qq (R : List ARow) (c : Int) (h1 : 64 ≤ c) (h2 : c < 96) (h4 : c = 91 ∨ isStr c = true) : aR G FT n_ref11_Parser_one [.ptr 0 0 0 0, .int .i32 c] (⟨1, 0, false, [[.own (R.length + 1) 0 0 1 1]]⟩ :: (R ++ [⟨1, 0, true, [[.int .i32 27]]⟩])) =
    some (.data false 6 [] true, ⟨1, 0, false, [[.own (R.length + 1) 1 0 2 2]]⟩ :: (R ++ [⟨1, 1, true, [[.int .i32 27], [.int .i32 c]]⟩] ++ [⟨1, 0, true, [[.int .i32 c]]⟩])) := by
  rw [run_ref11_Parser_one]
  have s := stringed_kq G R
  have e1 := app_at R
  have e2 := app_at1 R
  have e3 := app_at2 R
  have e4 := app_set1 R
  have e5 := app_len R
  have h5 : c = 91 ∨ c = 93 ∨ c = 80 ∨ c = 88 ∨ c = 94 ∨ c = 95 := by
    rcases h4 with h | h
    · exact .inl h
    · simp only [isStr, Bool.or_eq_true, decide_eq_true_eq] at h
      omega
  rcases h5 with rfl | rfl | rfl | rfl | rfl | rfl
  · (sym => simp [Qb,Qc,Qd,Qe,Qf,Qg,Qi,Qj,Qm,Qn,Qo,Qr,Qt,Qu,Qz,Q0,Q2,Q4,Q5,Q6,Q9,Xa,Xp,Xs,Xw,Xx,Xy,X0,X8,Ya,Yd,Yg,Yk,Yr,Yt,Yv,Yx,Y1,Y2,Y5,Y7,Y9,Za,Zb,Zc,Zd,Ze,Zg,Zh,Zi,Zj,Zk,Zl,Zm,Zn,Zq,Zr,Zs,Zt,Zu,Zv,Zw,Zx,Zy,Zz,Z0,Z1,Z3,Ja,Jb,Jj,Jk,Jl,Jr,Jv,Jx,J7,Kv,Kx,Ua,Ub,Uc,Ud,Ue,Uf,Ug,Hh,Hi,Hk,Hl,Ho,Hq,Hs,Hu,Hv,Hx,H2,H3,Nl,Nm,No,Nq,Nw,Nx,Nz,N2,Be,Bg,Bh,Bi,q11R0.eq_1,q11R1.eq_1,q11R2.eq_1,q11R3.eq_1,q11R4.eq_1,q11R5.eq_1,q11R6.eq_1,q11R7.eq_1,q11R8.eq_1,q11R9.eq_1,q11R10.eq_1,q11R11.eq_1,q11R12.eq_1,q11R13.eq_1,q11R14.eq_1,q11R15.eq_1,q11R16.eq_1,q11R17.eq_1,q11R18.eq_1,q11R19.eq_1,q11R20.eq_1,q11R21.eq_1,q11R22.eq_1,q11R23.eq_1,q11R24.eq_1,q11R25.eq_1,q11R26.eq_1,q11R27.eq_1,q11R28.eq_1,q11R29.eq_1,q11R30.eq_1,q11R31.eq_1,q11R32.eq_1,q11R33.eq_1,q11R34.eq_1,c_ref11_Parser_one.eq_1,s,e1,e2,e3,e4,e5])
  · (sym => simp [Qb,Qc,Qd,Qe,Qf,Qg,Qi,Qj,Qm,Qn,Qo,Qr,Qt,Qu,Qz,Q0,Q2,Q4,Q5,Q6,Q9,Xa,Xp,Xs,Xw,Xx,Xy,X0,X8,Ya,Yd,Yg,Yk,Yr,Yt,Yv,Yx,Y1,Y2,Y5,Y7,Y9,Za,Zb,Zc,Zd,Ze,Zg,Zh,Zi,Zj,Zk,Zl,Zm,Zn,Zq,Zr,Zs,Zt,Zu,Zv,Zw,Zx,Zy,Zz,Z0,Z1,Z3,Ja,Jb,Jj,Jk,Jl,Jr,Jv,Jx,J7,Kv,Kx,Ua,Ub,Uc,Ud,Ue,Uf,Ug,Hh,Hi,Hk,Hl,Ho,Hq,Hs,Hu,Hv,Hx,H2,H3,Nl,Nm,No,Nq,Nw,Nx,Nz,N2,Be,Bg,Bh,Bi,q11R0.eq_1,q11R1.eq_1,q11R2.eq_1,q11R3.eq_1,q11R4.eq_1,q11R5.eq_1,q11R6.eq_1,q11R7.eq_1,q11R8.eq_1,q11R9.eq_1,q11R10.eq_1,q11R11.eq_1,q11R12.eq_1,q11R13.eq_1,q11R14.eq_1,q11R15.eq_1,q11R16.eq_1,q11R17.eq_1,q11R18.eq_1,q11R19.eq_1,q11R20.eq_1,q11R21.eq_1,q11R22.eq_1,q11R23.eq_1,q11R24.eq_1,q11R25.eq_1,q11R26.eq_1,q11R27.eq_1,q11R28.eq_1,q11R29.eq_1,q11R30.eq_1,q11R31.eq_1,q11R32.eq_1,q11R33.eq_1,q11R34.eq_1,c_ref11_Parser_one.eq_1,s,e1,e2,e3,e4,e5])
  · (sym => simp [Qb,Qc,Qd,Qe,Qf,Qg,Qi,Qj,Qm,Qn,Qo,Qr,Qt,Qu,Qz,Q0,Q2,Q4,Q5,Q6,Q9,Xa,Xp,Xs,Xw,Xx,Xy,X0,X8,Ya,Yd,Yg,Yk,Yr,Yt,Yv,Yx,Y1,Y2,Y5,Y7,Y9,Za,Zb,Zc,Zd,Ze,Zg,Zh,Zi,Zj,Zk,Zl,Zm,Zn,Zq,Zr,Zs,Zt,Zu,Zv,Zw,Zx,Zy,Zz,Z0,Z1,Z3,Ja,Jb,Jj,Jk,Jl,Jr,Jv,Jx,J7,Kv,Kx,Ua,Ub,Uc,Ud,Ue,Uf,Ug,Hh,Hi,Hk,Hl,Ho,Hq,Hs,Hu,Hv,Hx,H2,H3,Nl,Nm,No,Nq,Nw,Nx,Nz,N2,Be,Bg,Bh,Bi,q11R0.eq_1,q11R1.eq_1,q11R2.eq_1,q11R3.eq_1,q11R4.eq_1,q11R5.eq_1,q11R6.eq_1,q11R7.eq_1,q11R8.eq_1,q11R9.eq_1,q11R10.eq_1,q11R11.eq_1,q11R12.eq_1,q11R13.eq_1,q11R14.eq_1,q11R15.eq_1,q11R16.eq_1,q11R17.eq_1,q11R18.eq_1,q11R19.eq_1,q11R20.eq_1,q11R21.eq_1,q11R22.eq_1,q11R23.eq_1,q11R24.eq_1,q11R25.eq_1,q11R26.eq_1,q11R27.eq_1,q11R28.eq_1,q11R29.eq_1,q11R30.eq_1,q11R31.eq_1,q11R32.eq_1,q11R33.eq_1,q11R34.eq_1,c_ref11_Parser_one.eq_1,s,e1,e2,e3,e4,e5])
  · (sym => simp [Qb,Qc,Qd,Qe,Qf,Qg,Qi,Qj,Qm,Qn,Qo,Qr,Qt,Qu,Qz,Q0,Q2,Q4,Q5,Q6,Q9,Xa,Xp,Xs,Xw,Xx,Xy,X0,X8,Ya,Yd,Yg,Yk,Yr,Yt,Yv,Yx,Y1,Y2,Y5,Y7,Y9,Za,Zb,Zc,Zd,Ze,Zg,Zh,Zi,Zj,Zk,Zl,Zm,Zn,Zq,Zr,Zs,Zt,Zu,Zv,Zw,Zx,Zy,Zz,Z0,Z1,Z3,Ja,Jb,Jj,Jk,Jl,Jr,Jv,Jx,J7,Kv,Kx,Ua,Ub,Uc,Ud,Ue,Uf,Ug,Hh,Hi,Hk,Hl,Ho,Hq,Hs,Hu,Hv,Hx,H2,H3,Nl,Nm,No,Nq,Nw,Nx,Nz,N2,Be,Bg,Bh,Bi,q11R0.eq_1,q11R1.eq_1,q11R2.eq_1,q11R3.eq_1,q11R4.eq_1,q11R5.eq_1,q11R6.eq_1,q11R7.eq_1,q11R8.eq_1,q11R9.eq_1,q11R10.eq_1,q11R11.eq_1,q11R12.eq_1,q11R13.eq_1,q11R14.eq_1,q11R15.eq_1,q11R16.eq_1,q11R17.eq_1,q11R18.eq_1,q11R19.eq_1,q11R20.eq_1,q11R21.eq_1,q11R22.eq_1,q11R23.eq_1,q11R24.eq_1,q11R25.eq_1,q11R26.eq_1,q11R27.eq_1,q11R28.eq_1,q11R29.eq_1,q11R30.eq_1,q11R31.eq_1,q11R32.eq_1,q11R33.eq_1,q11R34.eq_1,c_ref11_Parser_one.eq_1,s,e1,e2,e3,e4,e5])
  · (sym => simp [Qb,Qc,Qd,Qe,Qf,Qg,Qi,Qj,Qm,Qn,Qo,Qr,Qt,Qu,Qz,Q0,Q2,Q4,Q5,Q6,Q9,Xa,Xp,Xs,Xw,Xx,Xy,X0,X8,Ya,Yd,Yg,Yk,Yr,Yt,Yv,Yx,Y1,Y2,Y5,Y7,Y9,Za,Zb,Zc,Zd,Ze,Zg,Zh,Zi,Zj,Zk,Zl,Zm,Zn,Zq,Zr,Zs,Zt,Zu,Zv,Zw,Zx,Zy,Zz,Z0,Z1,Z3,Ja,Jb,Jj,Jk,Jl,Jr,Jv,Jx,J7,Kv,Kx,Ua,Ub,Uc,Ud,Ue,Uf,Ug,Hh,Hi,Hk,Hl,Ho,Hq,Hs,Hu,Hv,Hx,H2,H3,Nl,Nm,No,Nq,Nw,Nx,Nz,N2,Be,Bg,Bh,Bi,q11R0.eq_1,q11R1.eq_1,q11R2.eq_1,q11R3.eq_1,q11R4.eq_1,q11R5.eq_1,q11R6.eq_1,q11R7.eq_1,q11R8.eq_1,q11R9.eq_1,q11R10.eq_1,q11R11.eq_1,q11R12.eq_1,q11R13.eq_1,q11R14.eq_1,q11R15.eq_1,q11R16.eq_1,q11R17.eq_1,q11R18.eq_1,q11R19.eq_1,q11R20.eq_1,q11R21.eq_1,q11R22.eq_1,q11R23.eq_1,q11R24.eq_1,q11R25.eq_1,q11R26.eq_1,q11R27.eq_1,q11R28.eq_1,q11R29.eq_1,q11R30.eq_1,q11R31.eq_1,q11R32.eq_1,q11R33.eq_1,q11R34.eq_1,c_ref11_Parser_one.eq_1,s,e1,e2,e3,e4,e5])
  · (sym => simp [Qb,Qc,Qd,Qe,Qf,Qg,Qi,Qj,Qm,Qn,Qo,Qr,Qt,Qu,Qz,Q0,Q2,Q4,Q5,Q6,Q9,Xa,Xp,Xs,Xw,Xx,Xy,X0,X8,Ya,Yd,Yg,Yk,Yr,Yt,Yv,Yx,Y1,Y2,Y5,Y7,Y9,Za,Zb,Zc,Zd,Ze,Zg,Zh,Zi,Zj,Zk,Zl,Zm,Zn,Zq,Zr,Zs,Zt,Zu,Zv,Zw,Zx,Zy,Zz,Z0,Z1,Z3,Ja,Jb,Jj,Jk,Jl,Jr,Jv,Jx,J7,Kv,Kx,Ua,Ub,Uc,Ud,Ue,Uf,Ug,Hh,Hi,Hk,Hl,Ho,Hq,Hs,Hu,Hv,Hx,H2,H3,Nl,Nm,No,Nq,Nw,Nx,Nz,N2,Be,Bg,Bh,Bi,q11R0.eq_1,q11R1.eq_1,q11R2.eq_1,q11R3.eq_1,q11R4.eq_1,q11R5.eq_1,q11R6.eq_1,q11R7.eq_1,q11R8.eq_1,q11R9.eq_1,q11R10.eq_1,q11R11.eq_1,q11R12.eq_1,q11R13.eq_1,q11R14.eq_1,q11R15.eq_1,q11R16.eq_1,q11R17.eq_1,q11R18.eq_1,q11R19.eq_1,q11R20.eq_1,q11R21.eq_1,q11R22.eq_1,q11R23.eq_1,q11R24.eq_1,q11R25.eq_1,q11R26.eq_1,q11R27.eq_1,q11R28.eq_1,q11R29.eq_1,q11R30.eq_1,q11R31.eq_1,q11R32.eq_1,q11R33.eq_1,q11R34.eq_1,c_ref11_Parser_one.eq_1,s,e1,e2,e3,e4,e5])
theorem rk_escq (R : List ARow) (c : Int) (h1 : 64 ≤ c) (h2 : c < 96) (h4 : ¬ c = 91) (h5 : isStr c = false) : aR G FT n_ref11_Parser_one [.ptr 0 0 0 0, .int .i32 c] (⟨1, 0, false, [[.own (R.length + 1) 0 0 1 1]]⟩ :: (R ++ [⟨1, 0, true, [[.int .i32 27]]⟩])) =
    some (.data false 6 [[.int .i64 3, .int .i32 c, .int .i32 0, .str ⟨#[]⟩, .data false 1 [] true, .data false 1 [] true]] false, ⟨1, 0, false, [[.data false 1 [] true]]⟩ :: (R ++ [⟨1, 1, true, [[.int .i32 27], [.int .i32 c]]⟩] ++ [⟨1, 0, true, [[.int .i32 c]]⟩])) := by
  rw [run_ref11_Parser_one]
  have s := stringed_kq G R
  have e1 := app_at R
  have e2 := app_at1 R
  have e3 := app_at2 R
  have e4 := app_set1 R
  have e5 := app_len R
  have k1 : ¬ c = 27 := by omega
  have k2 : ¬ c = 24 := by omega
  have k3 : ¬ c = 26 := by omega
  have k4 : ¬ 160 ≤ c := by omega
  have k5 : ¬ c < 32 := by omega
  have k6 : ¬ c < 48 := by omega
  have k7 : ¬ c = 127 := by omega
  simp only [isStr, Bool.or_eq_false_iff, decide_eq_false_iff_not] at h5
  obtain ⟨⟨⟨⟨m1, m2⟩, m3⟩, m4⟩, m5⟩ := h5
  have he := fun b f => resc_P G c [c] b f (by simp) (by simp) rfl
  have ee : actG (escT [c] c) = [[.int .i64 3, .int .i32 c, .int .i32 0, .str ⟨#[]⟩, .data false 1 [] true, .data false 1 [] true]] := rfl
  simp only [rn, List.map_cons, List.map_nil, ee] at he
  (sym => simp [Qb,Qc,Qd,Qe,Qf,Qg,Qi,Qj,Qm,Qn,Qo,Qr,Qt,Qu,Qz,Q0,Q2,Q4,Q5,Q6,Q9,Xa,Xl,Xm,Xn,Xp,Xs,Xw,Xx,Xy,X0,X8,Ya,Yd,Yg,Yk,Yr,Yt,Yv,Yx,Y1,Y2,Y5,Y7,Y9,Za,Zb,Zc,Zd,Ze,Zg,Zh,Zi,Zj,Zk,Zl,Zm,Zn,Zo,Zq,Zr,Zs,Zt,Zu,Zv,Zw,Zx,Zy,Zz,Z0,Z1,Z3,Ja,Jb,Jj,Jk,Jr,Jv,Jx,J6,J7,Kv,Kx,K0,K1,K2,Ua,Ub,Uc,Ud,Ue,Uf,Ug,V1,Wd,We,Hh,Hi,Hk,Hl,Ho,Hq,Hr,Hs,Hu,Hv,Hx,H2,H3,Nl,Nm,No,Nq,Nx,Nz,N2,Be,Bg,Bh,Bi,q11R0.eq_1,q11R1.eq_1,q11R2.eq_1,q11R3.eq_1,q11R4.eq_1,q11R5.eq_1,q11R6.eq_1,q11R7.eq_1,q11R8.eq_1,q11R9.eq_1,q11R10.eq_1,q11R11.eq_1,q11R12.eq_1,q11R13.eq_1,q11R14.eq_1,q11R15.eq_1,q11R16.eq_1,q11R17.eq_1,q11R18.eq_1,q11R19.eq_1,q11R20.eq_1,q11R21.eq_1,q11R22.eq_1,q11R23.eq_1,q11R24.eq_1,q11R25.eq_1,q11R26.eq_1,q11R27.eq_1,q11R28.eq_1,q11R29.eq_1,q11R30.eq_1,q11R31.eq_1,q11R32.eq_1,q11R33.eq_1,q11R34.eq_1,c_ref11_Parser_one.eq_1,s,h4,k1,k2,k3,k4,k5,k6,k7,m1,m2,m3,m4,m5,he,e1,e2,e3,e4,e5])
variable (hh : List ARow)
end
section
variable (G : Nat → Option (List AV)) (fl : Bool) (hh : List ARow)
section
variable (c : Int) (h1 : 128 ≤ c) (h2 : c < 160)
include h1 h2
theorem rput_qq (R : List ARow) (p p2 a b a' : ARow) (he1 : aR G FT n_ref11_Parser_one [.ptr 0 0 0 0, .int .i32 27] hh = some (.data false 6 [] true, p :: (R ++ [a'])))
    (he2 : aR G FT n_ref11_Parser_one [.ptr 0 0 0 0, .int .i32 (c - 64)] (p :: (R ++ [a'])) = some (.data false 6 [] true, p2 :: (R ++ [a] ++ [b]))) :
    aR G FT n_ref11_Parser_Put [.ptr 0 0 0 0, .int .i32 c] hh = some (.data false 6 [] false, p2 :: (R ++ [a] ++ [b] ++ [⟨6, 1, true, []⟩])) := by
  rw [run_ref11_Parser_Put]
  have k1 : ¬ c < 0 := by omega
  have k2 : ¬ 1114111 < c := by omega
  have k3 : ¬ 55296 ≤ c := by omega
  have k4 : c ≤ 159 := by omega
  have w := i32_in (n := c - 64) (by omega) (by omega)
  have e3 : ∀ x y z : ARow, (R ++ [x] ++ [y] ++ [z])[R.length + 1 + 1]? = some z := fun x y z => by rw [List.getElem?_append_right (by simp)]; simp
  have e4 : ∀ x y z z' : ARow, (R ++ [x] ++ [y] ++ [z]).set (R.length + 1 + 1) z' = R ++ [x] ++ [y] ++ [z'] := fun x y z z' => by rw [List.set_append_right _ _ (by simp)]; simp
  have e5 : ∀ x y : ARow, (R ++ [x] ++ [y]).length = R.length + 1 + 1 := fun x y => by simp
  (sym => simp [Qb,Qc,Qd,Qe,Qf,Qg,Qi,Qj,Qm,Qn,Qo,Qr,Qt,Qu,Xa,X0,X6,Ya,Yb,Yc,Yd,Y1,Y3,Y5,Y7,Y9,Za,Zb,Zc,Ze,Zg,Zh,Zi,Zj,Zk,Zl,Zm,Zn,Zq,Zr,Zs,Zt,Zu,Zv,Zw,Zx,Zy,Zz,Z0,Z3,Ja,Jb,Jj,Jk,Jl,Jr,Jv,Jx,Kw,Kx,Hi,Hl,Hq,Ht,Hu,Hx,Nf,Nl,Nm,Nn,Nx,Nz,Be,Bj,Bo,Bp,Bw,BB,BC,q10R0.eq_1,q10R1.eq_1,q10R2.eq_1,q10R3.eq_1,q10R4.eq_1,q10R5.eq_1,q10R6.eq_1,q10R7.eq_1,c_ref11_Parser_Put.eq_1,h1,k1,k2,k3,k4,w,he1,he2,e3,e4,e5])
theorem rput_tq (l : List AV) (hs : AV.stableL l = true) (R : List ARow) (p p2 a b a' : ARow) (he1 : aR G FT n_ref11_Parser_one [.ptr 0 0 0 0, .int .i32 27] hh = some (.data false 6 [] true, p :: (R ++ [a'])))
    (he2 : aR G FT n_ref11_Parser_one [.ptr 0 0 0 0, .int .i32 (c - 64)] (p :: (R ++ [a'])) = some (.data false 6 [l] false, p2 :: (R ++ [a] ++ [b]))) :
    aR G FT n_ref11_Parser_Put [.ptr 0 0 0 0, .int .i32 c] hh = some (.data false 6 [l] false, p2 :: (R ++ [a] ++ [b] ++ [⟨6, 1, true, []⟩])) := by
  rw [run_ref11_Parser_Put]
  have k1 : ¬ c < 0 := by omega
  have k2 : ¬ 1114111 < c := by omega
  have k3 : ¬ 55296 ≤ c := by omega
  have k4 : c ≤ 159 := by omega
  have w := i32_in (n := c - 64) (by omega) (by omega)
  have e3 : ∀ x y z : ARow, (R ++ [x] ++ [y] ++ [z])[R.length + 1 + 1]? = some z := fun x y z => by rw [List.getElem?_append_right (by simp)]; simp
  have e4 : ∀ x y z z' : ARow, (R ++ [x] ++ [y] ++ [z]).set (R.length + 1 + 1) z' = R ++ [x] ++ [y] ++ [z'] := fun x y z z' => by rw [List.set_append_right _ _ (by simp)]; simp
  have e5 : ∀ x y : ARow, (R ++ [x] ++ [y]).length = R.length + 1 + 1 := fun x y => by simp
  (sym => simp [Qb,Qc,Qd,Qe,Qf,Qg,Qi,Qj,Qm,Qn,Qo,Qr,Qt,Qu,Xa,X0,X6,Ya,Yb,Yc,Yd,Y1,Y3,Y5,Y7,Y9,Za,Zb,Zc,Ze,Zg,Zh,Zi,Zj,Zk,Zl,Zm,Zn,Zq,Zr,Zs,Zt,Zu,Zv,Zw,Zx,Zy,Zz,Z0,Z3,Ja,Jb,Jj,Jk,Jl,Jr,Jv,Jx,Kw,Kx,Hi,Hl,Ho,Hq,Hs,Hu,Hx,Nl,Nm,Nn,Nx,Nz,Be,Bj,Bo,Bp,Bw,BB,BC,q10R0.eq_1,q10R1.eq_1,q10R2.eq_1,q10R3.eq_1,q10R4.eq_1,q10R5.eq_1,q10R6.eq_1,q10R7.eq_1,c_ref11_Parser_Put.eq_1,h1,k1,k2,k3,k4,w,he1,he2,e3,e4,e5,hs])
theorem rput_q1q (ts : List Int) (p p2 hd a b a' : ARow) (he1 : aR G FT n_ref11_Parser_one [.ptr 0 0 0 0, .int .i32 27] hh = some (.own 3 0 0 1 1, [p, hd, ⟨1, 0, true, rn ts⟩, ⟨6, 0, false, [[.int .i64 5, .int .i32 0, .int .i32 0, .str ⟨#[]⟩, .data false 1 [] true, .own 2 0 0 ts.length ts.length]]⟩, a']))
    (he2 : aR G FT n_ref11_Parser_one [.ptr 0 0 0 0, .int .i32 (c - 64)] [p, hd, ⟨1, 0, true, rn ts⟩, ⟨6, 0, false, [[.int .i64 5, .int .i32 0, .int .i32 0, .str ⟨#[]⟩, .data false 1 [] true, .own 2 0 0 ts.length ts.length]]⟩, a'] =
      some (.data false 6 [] true, [p2, hd, ⟨1, 0, true, rn ts⟩, ⟨6, 0, false, [[.int .i64 5, .int .i32 0, .int .i32 0, .str ⟨#[]⟩, .data false 1 [] true, .own 2 0 0 ts.length ts.length]]⟩, a, b])) :
    aR G FT n_ref11_Parser_Put [.ptr 0 0 0 0, .int .i32 c] hh = some (.data false 6 [[.int .i64 5, .int .i32 0, .int .i32 0, .str ⟨#[]⟩, .data false 1 [] true, .data false 1 (rn ts) false]] false, [p2, hd, ⟨1, 1, true, []⟩, ⟨6, 2, true, []⟩, a, b]) := by
  rw [run_ref11_Parser_Put]
  have k1 : ¬ c < 0 := by omega
  have k2 : ¬ 1114111 < c := by omega
  have k3 : ¬ 55296 ≤ c := by omega
  have k4 : c ≤ 159 := by omega
  have w := i32_in (n := c - 64) (by omega) (by omega)
  have l1 := rn_len ts
  have l2 := rn_take ts
  (sym => simp [Qb,Qc,Qd,Qe,Qf,Qg,Qi,Qj,Qm,Qn,Qo,Qr,Qt,Qu,Xa,X0,X6,Ya,Yb,Yc,Yd,Y1,Y3,Y5,Y7,Y9,Za,Zb,Zc,Ze,Zg,Zh,Zi,Zj,Zk,Zl,Zm,Zn,Zq,Zr,Zs,Zt,Zu,Zv,Zw,Zx,Zy,Zz,Z0,Z3,Ja,Jb,Jj,Jk,Jl,Jr,Jv,Jx,Kv,Kx,Hh,Hi,Hk,Hl,Ho,Hq,Hs,Hv,Hw,H8,Ng,Nl,Nm,No,Nx,Nz,N2,Be,Bg,Bj,Bo,Bp,Br,Bt,Bw,Bx,By,Bz,BA,BB,BC,q10R0.eq_1,q10R1.eq_1,q10R2.eq_1,q10R3.eq_1,q10R4.eq_1,q10R5.eq_1,q10R6.eq_1,q10R7.eq_1,c_ref11_Parser_Put.eq_1,h1,k1,k2,k3,k4,w,he1,he2,l1,l2])
theorem rput_t1q (ts : List Int) (d : Int) (p p2 hd a b a' : ARow) (he1 : aR G FT n_ref11_Parser_one [.ptr 0 0 0 0, .int .i32 27] hh = some (.own 3 0 0 1 1, [p, hd, ⟨1, 0, true, rn ts⟩, ⟨6, 0, false, [[.int .i64 5, .int .i32 0, .int .i32 0, .str ⟨#[]⟩, .data false 1 [] true, .own 2 0 0 ts.length ts.length]]⟩, a']))
    (he2 : aR G FT n_ref11_Parser_one [.ptr 0 0 0 0, .int .i32 (c - 64)] [p, hd, ⟨1, 0, true, rn ts⟩, ⟨6, 0, false, [[.int .i64 5, .int .i32 0, .int .i32 0, .str ⟨#[]⟩, .data false 1 [] true, .own 2 0 0 ts.length ts.length]]⟩, a'] =
      some (.data false 6 [[.int .i64 3, .int .i32 d, .int .i32 0, .str ⟨#[]⟩, .data false 1 [] true, .data false 1 [] true]] false, [p2, hd, ⟨1, 0, true, rn ts⟩, ⟨6, 0, false, [[.int .i64 5, .int .i32 0, .int .i32 0, .str ⟨#[]⟩, .data false 1 [] true, .own 2 0 0 ts.length ts.length]]⟩, a, b])) :
    aR G FT n_ref11_Parser_Put [.ptr 0 0 0 0, .int .i32 c] hh = some (.data false 6 [[.int .i64 5, .int .i32 0, .int .i32 0, .str ⟨#[]⟩, .data false 1 [] true, .data false 1 (rn ts) false], [.int .i64 3, .int .i32 d, .int .i32 0, .str ⟨#[]⟩, .data false 1 [] true, .data false 1 [] true]] false, [p2, hd, ⟨1, 1, true, []⟩, ⟨6, 2, true, []⟩, a, b]) := by
  rw [run_ref11_Parser_Put]
  have k1 : ¬ c < 0 := by omega
  have k2 : ¬ 1114111 < c := by omega
  have k3 : ¬ 55296 ≤ c := by omega
  have k4 : c ≤ 159 := by omega
  have w := i32_in (n := c - 64) (by omega) (by omega)
  have l1 := rn_len ts
  have l2 := rn_take ts
  (sym => simp [Qb,Qc,Qd,Qe,Qf,Qg,Qi,Qj,Qm,Qn,Qo,Qr,Qt,Qu,Xa,X0,X6,Ya,Yb,Yc,Yd,Y1,Y3,Y5,Y7,Y9,Za,Zb,Zc,Ze,Zg,Zh,Zi,Zj,Zk,Zl,Zm,Zn,Zq,Zr,Zs,Zt,Zu,Zv,Zw,Zx,Zy,Zz,Z0,Z3,Ja,Jb,Jj,Jk,Jl,Jr,Jv,Jx,Kv,Kx,Hh,Hi,Hk,Hl,Ho,Hq,Hs,Hu,Hv,Hw,H8,Ng,Nl,Nm,No,Nx,Nz,N2,Be,Bg,Bj,Bo,Bp,Br,Bt,Bw,Bx,By,Bz,BA,BB,BC,q10R0.eq_1,q10R1.eq_1,q10R2.eq_1,q10R3.eq_1,q10R4.eq_1,q10R5.eq_1,q10R6.eq_1,q10R7.eq_1,c_ref11_Parser_Put.eq_1,h1,k1,k2,k3,k4,w,he1,he2,l1,l2])
end
end
section
variable (G : Nat → Option (List AV)) (fl : Bool)
theorem rput_okq (H : List Int) (ok : rOk H) (c : Int) : ∃ b hy, aR G FT n_ref11_Parser_Put [.ptr 0 0 0 0, .int .i32 c] (rHeapq fl H) = some (.data false 6 (actG (rPut H c).1) b, hy) ∧ RStq hy (rPut H c).2 := by
  unfold rPut
  by_cases hc : 128 ≤ pointT c ∧ pointT c < 160
  · rw [if_pos hc]
    obtain ⟨h1, h2⟩ := hc
    have ec : pointT c = c := by
      unfold pointT at h1 h2 ⊢
      split
      · rename_i k; rw [if_pos k] at h2; omega
      · rfl
    rw [ec] at h1 h2 ⊢
    have quiet : ∀ (R : List ARow), rTold H = [] → aR G FT n_ref11_Parser_one [.ptr 0 0 0 0, .int .i32 27] (rHeapq fl H) = some (.data false 6 [] true, ⟨1, 0, false, [[.own (R.length + 1) 0 0 1 1]]⟩ :: (R ++ [⟨1, 0, true, [[.int .i32 27]]⟩])) →
        ∃ b hy, aR G FT n_ref11_Parser_Put [.ptr 0 0 0 0, .int .i32 c] (rHeapq fl H) = some (.data false 6 (actG (rTold H ++ (rOne [27] (c - 64)).1)) b, hy) ∧ RStq hy (rOne [27] (c - 64)).2 := by
      intro R he0 he1
      rw [he0]
      rcases rone_second (c - 64) (by omega) (by omega) with ⟨e, k⟩ | ⟨e, k, k'⟩
      · rw [e]
        refine ⟨_, _, rput_qq G _ c h1 h2 R _ _ _ _ _ he1 (rk_qq G R (c - 64) (by omega) (by omega) k), rst_consq (by simp) (R.length + 1) 1 _ rfl (by omega) ?_⟩
        simp [rn]
      · rw [e]
        exact ⟨_, _, rput_tq G _ c h1 h2 _ rfl R _ _ _ _ _ he1 (rk_escq G R (c - 64) (by omega) (by omega) k k'), _, _, rfl⟩
    by_cases h0 : H = []
    · subst h0
      exact quiet [] rfl (r0_27q G fl)
    have two : ∀ H : List Int, H ≠ [] → (H[1]? = none ∧ ∃ x, H = [x]) ∨ ∃ d, H[1]? = some d ∧ 2 ≤ H.length := fun H h0 => by
      match H with
      | [] => exact absurd rfl h0
      | [x] => exact .inl ⟨rfl, x, rfl⟩
      | x :: y :: r => exact .inr ⟨y, rfl, by simp⟩
    rcases two H h0 with ⟨_, x, rfl⟩ | ⟨d, hd, hl2⟩
    · exact quiet [_] rfl (r1_27q G _)
    · by_cases e : d = 93
      · subst e
        have hlen := held_len H hl2
        have t : rTold H = [oscT (heldT H)] := by unfold rTold; rw [if_pos hd]
        have r := r2_27yq G H hl2 (by have := ok.1; omega) hd
        rw [← hlen] at r
        rw [t]
        rw [rheap_consq fl h0]
        rcases rone_second (c - 64) (by omega) (by omega) with ⟨e, k⟩ | ⟨e, k, k'⟩
        · rw [e]
          refine ⟨_, _, rput_q1q G _ c h1 h2 (heldT H) _ _ _ _ _ _ r (rk_qq G [⟨1, 0, true, rn H⟩, ⟨1, 0, true, rn (heldT H)⟩, ⟨6, 0, false, [[.int .i64 5, .int .i32 0, .int .i32 0, .str ⟨#[]⟩, .data false 1 [] true, .own 2 0 0 (heldT H).length (heldT H).length]]⟩] (c - 64) (by omega) (by omega) k), rst_consq (by simp) 4 1 _ rfl (by omega) rfl⟩
        · rw [e]
          exact ⟨_, _, rput_t1q G _ c h1 h2 (heldT H) _ _ _ _ _ _ _ r (rk_escq G [⟨1, 0, true, rn H⟩, ⟨1, 0, true, rn (heldT H)⟩, ⟨6, 0, false, [[.int .i64 5, .int .i32 0, .int .i32 0, .str ⟨#[]⟩, .data false 1 [] true, .own 2 0 0 (heldT H).length (heldT H).length]]⟩] (c - 64) (by omega) (by omega) k k'), _, _, rfl⟩
      · have t : rTold H = [] := by unfold rTold; rw [if_neg (by rw [hd]; simpa using e)]
        refine quiet [⟨1, 0, true, rn H⟩] t ?_
        rw [rheap_consq fl h0]
        exact r2_27nq G H d hl2 (by have := ok.1; omega) hd e
  · rw [if_neg hc]
    obtain ⟨v, hx, b, hy, e1, e2, e3⟩ := rone_okq G fl H ok (pointT c) (by omega)
    exact ⟨b, hy, rput_1 G _ c hc v _ hx hy e1 e2, e3⟩
end
end Go.Proofs.Ytkkcblfoaldckaa
