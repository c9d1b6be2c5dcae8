/- VtParses: the law. Conditions: none. -/
import Derived.Test.YtkkcblfoaldckaaVs4
import Derived.Test.YtkkcblfoaldckaaVtF
set_option linter.unusedVariables false
set_option linter.unusedSimpArgs false
set_option linter.unusedSectionVars false
set_option maxRecDepth 20000
set_option maxHeartbeats 4000000
namespace Go.Proofs.Ytkkcblfoaldckaa
open Go
variable (G : Nat → Option (List AV))
theorem ba_self (s : ByteArray) : (s == s) = true := by
  obtain ⟨d⟩ := s
  show (d == d) = true
  simp
theorem same_loop0 (k c m : Int) (s : ByteArray) (ps ts : List Int) (pf tf : Bool) (hl : ps.length ≤ 1000000) : ∀ n j, j + n = ps.length →
    aE G FT 0 lp_ref11_Same_0 ⟨[(2, .ptr 0 0 0 0), (3, .ptr 1 0 0 0), (5, .int .i64 j)], [⟨6, 0, true, [[.int .i64 k, .int .i32 c, .int .i32 m, .str s, .data false 1 (ints ps) pf, .data false 1 (rn ts) tf]]⟩, ⟨6, 0, true, [[.int .i64 k, .int .i32 c, .int .i32 m, .str s, .data false 1 (ints ps) pf, .data false 1 (rn ts) tf]]⟩]⟩ =
      some (.exit 0, ⟨[(2, .ptr 0 0 0 0), (3, .ptr 1 0 0 0), (5, .int .i64 ps.length), (55, .bool false)], [⟨6, 0, true, [[.int .i64 k, .int .i32 c, .int .i32 m, .str s, .data false 1 (ints ps) pf, .data false 1 (rn ts) tf]]⟩, ⟨6, 0, true, [[.int .i64 k, .int .i32 c, .int .i32 m, .str s, .data false 1 (ints ps) pf, .data false 1 (rn ts) tf]]⟩]⟩) := by
  intro n
  have il := ints_len ps
  have gc : ∀ j : Int, agc 0 [2, 3, 5] ⟨[(2, .ptr 0 0 0 0), (3, .ptr 1 0 0 0), (5, .int .i64 j)], [⟨6, 0, true, [[.int .i64 k, .int .i32 c, .int .i32 m, .str s, .data false 1 (ints ps) pf, .data false 1 (rn ts) tf]]⟩, ⟨6, 0, true, [[.int .i64 k, .int .i32 c, .int .i32 m, .str s, .data false 1 (ints ps) pf, .data false 1 (rn ts) tf]]⟩]⟩ = some ⟨[(2, .ptr 0 0 0 0), (3, .ptr 1 0 0 0), (5, .int .i64 j)], [⟨6, 0, true, [[.int .i64 k, .int .i32 c, .int .i32 m, .str s, .data false 1 (ints ps) pf, .data false 1 (rn ts) tf]]⟩, ⟨6, 0, true, [[.int .i64 k, .int .i32 c, .int .i32 m, .str s, .data false 1 (ints ps) pf, .data false 1 (rn ts) tf]]⟩]⟩ := fun j => by
    (sym => simp [Qa,Qc,Qd,Qe,Qi,Qj,Qr,Qt,Q4,Xa,Xp,Xs,Xy,X5,X9,Ya,Yh,Yr,Ys,Yt,Yv,Yy,Y9,Za,Zb,Zc,Ze,Zg,Zh,Zk,Zl,Zm,Zn,Zt,Zv,Zw,Zx,Zy,Zz,Z0,Z3,Jj,Jk,Jm,Jn,Jo,Jr,Js,Ju,Jv,Ut,Ux,U4,U5,U7,Vb,Vk,Vm,Vo,Vp,Vq,Vr,Vs,Vt,Vu,Vv,Vw,Vx,Vy,Vz,V0,Hh,Hi,Hp,Hu,Hv,Hw,H1,H4,H5,H6,Ni,Nk,Nl,Nm,No,Nu,Nw,Nx,Be])
  induction n with
  | zero =>
    intro j hj
    obtain rfl : j = ps.length := by omega
    have q : ¬ (ps.length : Int) < ps.length := by omega
    rw [lp_ref11_Same_0, y_loop, gc]
    (sym => simp [Qa,Qc,Qd,Qe,Qi,Qj,Qr,Qt,Q4,Xa,Xp,Xs,Xy,X5,X9,Ya,Yh,Yr,Ys,Yt,Yv,Yy,Y9,Za,Zb,Zc,Ze,Zg,Zh,Zk,Zl,Zm,Zn,Zt,Zv,Zw,Zx,Zy,Zz,Z0,Z3,Jj,Jk,Jm,Jn,Jo,Jr,Js,Ju,Jv,Ut,Ux,U4,U5,U7,Vb,Vk,Vm,Vo,Vp,Vq,Vr,Vs,Vt,Vu,Vv,Vw,Vx,Vy,Vz,V0,Hh,Hi,Hp,Hu,Hv,Hw,H1,H4,H5,H6,Ni,Nk,Nl,Nm,No,Nu,Nw,Nx,Be,q14R0.eq_1,q14R1.eq_1,q14R2.eq_1,q14R3.eq_1,q14R4.eq_1,q14R6.eq_1,q14R7.eq_1,q14R5.eq_1,q14R8.eq_1,q14R9.eq_1,q14R11.eq_1,q14R12.eq_1,q14R10.eq_1,q14R13.eq_1,c_ref11_Same.eq_1,c_ref11_Same_L0.eq_1,il,q])
  | succ n ih =>
    intro j hj
    have hn : j < ps.length := by omega
    have q : (j : Int) < ps.length := by omega
    have a1 := ints_at hn
    have hw := wrap_nat (n := j) (by omega)
    have ih := ih (j + 1) (by omega)
    rw [lp_ref11_Same_0] at ih
    rw [lp_ref11_Same_0, y_loop, gc, ← ih]
    (sym => simp [Qa,Qc,Qd,Qe,Qi,Qj,Qr,Qt,Q4,Xa,Xp,Xs,Xy,X5,X9,Ya,Yh,Yr,Ys,Yt,Yv,Yy,Y9,Za,Zb,Zc,Ze,Zg,Zh,Zk,Zl,Zm,Zn,Zt,Zv,Zw,Zx,Zy,Zz,Z0,Z3,Jj,Jk,Jm,Jn,Jo,Jr,Js,Ju,Jv,Ut,Ux,U4,U5,U7,Vb,Vk,Vm,Vo,Vp,Vq,Vr,Vs,Vt,Vu,Vv,Vw,Vx,Vy,Vz,V0,Hh,Hi,Hp,Hu,Hv,Hw,H1,H4,H5,H6,Ni,Nk,Nl,Nm,No,Nu,Nw,Nx,Be,q14R0.eq_1,q14R1.eq_1,q14R2.eq_1,q14R3.eq_1,q14R4.eq_1,q14R6.eq_1,q14R7.eq_1,q14R5.eq_1,q14R8.eq_1,q14R9.eq_1,q14R11.eq_1,q14R12.eq_1,q14R10.eq_1,q14R13.eq_1,c_ref11_Same.eq_1,c_ref11_Same_L0.eq_1,il,q,a1,hw])
theorem same_loop1 (k c m : Int) (s : ByteArray) (ps ts : List Int) (pf tf : Bool) (hl : ts.length ≤ 1000000) : ∀ n j, j + n = ts.length →
    aE G FT 0 lp_ref11_Same_1 ⟨[(2, .ptr 0 0 0 0), (3, .ptr 1 0 0 0), (6, .int .i64 j)], [⟨6, 0, true, [[.int .i64 k, .int .i32 c, .int .i32 m, .str s, .data false 1 (ints ps) pf, .data false 1 (rn ts) tf]]⟩, ⟨6, 0, true, [[.int .i64 k, .int .i32 c, .int .i32 m, .str s, .data false 1 (ints ps) pf, .data false 1 (rn ts) tf]]⟩]⟩ =
      some (.exit 2, ⟨[(2, .ptr 0 0 0 0), (3, .ptr 1 0 0 0), (6, .int .i64 ts.length), (73, .bool false)], [⟨6, 0, true, [[.int .i64 k, .int .i32 c, .int .i32 m, .str s, .data false 1 (ints ps) pf, .data false 1 (rn ts) tf]]⟩, ⟨6, 0, true, [[.int .i64 k, .int .i32 c, .int .i32 m, .str s, .data false 1 (ints ps) pf, .data false 1 (rn ts) tf]]⟩]⟩) := by
  intro n
  have il := rn_len ts
  have gc : ∀ j : Int, agc 0 [2, 3, 6] ⟨[(2, .ptr 0 0 0 0), (3, .ptr 1 0 0 0), (6, .int .i64 j)], [⟨6, 0, true, [[.int .i64 k, .int .i32 c, .int .i32 m, .str s, .data false 1 (ints ps) pf, .data false 1 (rn ts) tf]]⟩, ⟨6, 0, true, [[.int .i64 k, .int .i32 c, .int .i32 m, .str s, .data false 1 (ints ps) pf, .data false 1 (rn ts) tf]]⟩]⟩ = some ⟨[(2, .ptr 0 0 0 0), (3, .ptr 1 0 0 0), (6, .int .i64 j)], [⟨6, 0, true, [[.int .i64 k, .int .i32 c, .int .i32 m, .str s, .data false 1 (ints ps) pf, .data false 1 (rn ts) tf]]⟩, ⟨6, 0, true, [[.int .i64 k, .int .i32 c, .int .i32 m, .str s, .data false 1 (ints ps) pf, .data false 1 (rn ts) tf]]⟩]⟩ := fun j => by
    (sym => simp [Qa,Qc,Qd,Qe,Qi,Qj,Qr,Qt,Q4,Xa,Xp,Xs,Xy,X5,X9,Ya,Yh,Yr,Ys,Yt,Yv,Yy,Y9,Za,Zb,Zc,Ze,Zg,Zh,Zk,Zl,Zm,Zn,Zt,Zv,Zw,Zx,Zy,Zz,Z0,Z3,Jj,Jk,Jm,Jn,Jo,Jr,Js,Ju,Jv,Ut,Ux,U4,U5,U7,Vb,Vk,Vm,Vo,Vp,Vq,Vr,Vs,Vt,Vu,Vv,Vw,Vx,Vy,Vz,V0,Hh,Hi,Hp,Hu,Hv,Hw,H1,H4,H5,H6,Ni,Nk,Nl,Nm,No,Nu,Nw,Nx,Be])
  induction n with
  | zero =>
    intro j hj
    obtain rfl : j = ts.length := by omega
    have q : ¬ (ts.length : Int) < ts.length := by omega
    rw [lp_ref11_Same_1, y_loop, gc]
    (sym => simp [Qa,Qc,Qd,Qe,Qi,Qj,Qr,Qt,Q4,Xa,Xp,Xs,Xy,X5,X9,Ya,Yh,Yr,Ys,Yt,Yv,Yy,Y9,Za,Zb,Zc,Ze,Zg,Zh,Zk,Zl,Zm,Zn,Zt,Zv,Zw,Zx,Zy,Zz,Z0,Z3,Jj,Jk,Jm,Jn,Jo,Jr,Js,Ju,Jv,Ut,Ux,U4,U5,U7,Vb,Vk,Vm,Vo,Vp,Vq,Vr,Vs,Vt,Vu,Vv,Vw,Vx,Vy,Vz,V0,Hh,Hi,Hp,Hu,Hv,Hw,H1,H4,H5,H6,Ni,Nk,Nl,Nm,No,Nu,Nw,Nx,Be,q14R0.eq_1,q14R1.eq_1,q14R2.eq_1,q14R3.eq_1,q14R4.eq_1,q14R6.eq_1,q14R7.eq_1,q14R5.eq_1,q14R8.eq_1,q14R9.eq_1,q14R11.eq_1,q14R12.eq_1,q14R10.eq_1,q14R13.eq_1,c_ref11_Same.eq_1,c_ref11_Same_L1.eq_1,il,q])
  | succ n ih =>
    intro j hj
    have hn : j < ts.length := by omega
    have q : (j : Int) < ts.length := by omega
    have a1 := rn_at hn
    have hw := wrap_nat (n := j) (by omega)
    have ih := ih (j + 1) (by omega)
    rw [lp_ref11_Same_1] at ih
    rw [lp_ref11_Same_1, y_loop, gc, ← ih]
    (sym => simp [Qa,Qc,Qd,Qe,Qi,Qj,Qr,Qt,Q4,Xa,Xp,Xs,Xy,X5,X9,Ya,Yh,Yr,Ys,Yt,Yv,Yy,Y9,Za,Zb,Zc,Ze,Zg,Zh,Zk,Zl,Zm,Zn,Zt,Zv,Zw,Zx,Zy,Zz,Z0,Z3,Jj,Jk,Jm,Jn,Jo,Jr,Js,Ju,Jv,Ut,Ux,U4,U5,U7,Vb,Vk,Vm,Vo,Vp,Vq,Vr,Vs,Vt,Vu,Vv,Vw,Vx,Vy,Vz,V0,Hh,Hi,Hp,Hu,Hv,Hw,H1,H4,H5,H6,Ni,Nk,Nl,Nm,No,Nu,Nw,Nx,Be,q14R0.eq_1,q14R1.eq_1,q14R2.eq_1,q14R3.eq_1,q14R4.eq_1,q14R6.eq_1,q14R7.eq_1,q14R5.eq_1,q14R8.eq_1,q14R9.eq_1,q14R11.eq_1,q14R12.eq_1,q14R10.eq_1,q14R13.eq_1,c_ref11_Same.eq_1,c_ref11_Same_L1.eq_1,il,q,a1,hw])
theorem same_P (a : Act') (h1 : a.ps.length ≤ 1000000) (h2 : a.ts.length ≤ 1000000) : aP G FT n_ref11_Same [.agg a.g, .agg a.g] = some (.bool true) := by
  obtain ⟨k, c, m, s, ps, pf, ts, tf⟩ := a
  unfold Act'.g
  simp only at h1 h2 ⊢
  have k1 := same_loop0 G k c m s ps ts pf tf h1 ps.length 0 (by omega)
  have k2 := same_loop1 G k c m s ps ts pf tf h2 ts.length 0 (by omega)
  simp only [Int.natCast_zero] at k1 k2
  have hs := ba_self s
  have i1 := ints_len ps
  have i2 := rn_len ts
  unfold aP
  rw [run_ref11_Same]
  (sym => simp [Qb,Qc,Qd,Qe,Qf,Qg,Qi,Qj,Qr,Qt,Qu,Qw,Q4,Xa,Xb,Xp,Xy,X9,Yh,Yj,Yr,Yt,Yv,Y1,Y5,Y7,Y9,Za,Zb,Zc,Ze,Zg,Zh,Zi,Zj,Zk,Zl,Zm,Zn,Zr,Zs,Zt,Zu,Zv,Zw,Zy,Z0,Z3,Jb,Jg,Jj,Jk,Jn,Jq,Jr,Jv,Jx,Kj,Kn,Ue,Uf,Ug,Ui,Ul,Wk,Hh,Hi,Hu,Hv,Nl,No,Nw,Nx,Be,q14R0.eq_1,q14R1.eq_1,q14R2.eq_1,q14R3.eq_1,q14R4.eq_1,q14R6.eq_1,q14R7.eq_1,q14R5.eq_1,q14R8.eq_1,q14R9.eq_1,q14R11.eq_1,q14R12.eq_1,q14R10.eq_1,q14R13.eq_1,c_ref11_Same.eq_1,k1,k2,hs,i1,i2])
theorem all_loop (l : List Act') (f f2 : Bool) (hl : l.length ≤ 1000000) (ha : ∀ a ∈ l, a.ps.length ≤ 1000000 ∧ a.ts.length ≤ 1000000) : ∀ n j, j + n = l.length → ∀ h,
    aE G FT 0 lp_ref11_All_0 ⟨[(0, .data false 6 (actG l) f), (1, .data false 6 (actG l) f2), (5, .int .i64 j)], h⟩ = some (.exit 0, ⟨[(0, .data false 6 (actG l) f), (1, .data false 6 (actG l) f2), (5, .int .i64 l.length), (14, .bool false)], []⟩) := by
  intro n
  have gc : ∀ (j : Int) h, agc 0 [0, 1, 5] ⟨[(0, .data false 6 (actG l) f), (1, .data false 6 (actG l) f2), (5, .int .i64 j)], h⟩ = some ⟨[(0, .data false 6 (actG l) f), (1, .data false 6 (actG l) f2), (5, .int .i64 j)], []⟩ := fun j h => by
    (sym => simp [Qa,Qc,Qd,Qe,Qi,Qj,Qm,Qn,Qo,Qr,Qt,Q4,Xa,Xd,Xs,Xy,X5,Ya,Yh,Ys,Yu,Yy,Y9,Za,Zb,Zc,Ze,Zg,Zh,Zk,Zl,Zo,Zt,Zv,Zw,Z3,Jj,Jk,Jm,Jn,Jo,Jr,Js,Ju,Jv,Ux,U0,U4,U5,Vb,Ve,Vo,Vq,Vr,Vt,Vv,Vw,Vy,Vz,V0,V3,Wd,We,Hp,Hs,Hw,H1,Ni,Nk,Nl,Nm,No,Nw,Be])
  have al := actG_len l
  induction n with
  | zero =>
    intro j hj h
    obtain rfl : j = l.length := by omega
    have q : ¬ (l.length : Int) < l.length := by omega
    rw [lp_ref11_All_0, y_loop, gc]
    (sym => simp [Qa,Qc,Qd,Qe,Qi,Qj,Qm,Qn,Qo,Qr,Qt,Q4,Xa,Xd,Xs,Xy,X5,Ya,Yh,Ys,Yu,Yy,Y9,Za,Zb,Zc,Ze,Zg,Zh,Zk,Zl,Zo,Zt,Zv,Zw,Z3,Jj,Jk,Jm,Jn,Jo,Jr,Js,Ju,Jv,Ux,U0,U4,U5,Vb,Ve,Vo,Vq,Vr,Vt,Vv,Vw,Vy,Vz,V0,V3,Wd,We,Hp,Hs,Hw,H1,Ni,Nk,Nl,Nm,No,Nw,Be,q8R0.eq_1,q8R1.eq_1,q8R2.eq_1,q8R3.eq_1,q8R4.eq_1,q8R6.eq_1,q8R7.eq_1,q8R5.eq_1,q8R8.eq_1,c_ref11_All.eq_1,c_ref11_All_L0.eq_1,al,q])
  | succ n ih =>
    intro j hj h
    have hn : j < l.length := by omega
    have q : (j : Int) < l.length := by omega
    have a1 := actG_at hn
    have hw := wrap_nat (n := j) (by omega)
    have hs := same_P G l[j] (ha _ (by simp)).1 (ha _ (by simp)).2
    have gl : l[j].g.length = 6 := rfl
    have gt : l[j].g.take 6 = l[j].g := rfl
    have gd : l[j].g.drop 0 = l[j].g := rfl
    have gv : ∀ h, aviewL h l[j].g = some l[j].g := fun h => by simp [Act'.g, aviewL, aview]
    have ih := ih (j + 1) (by omega) []
    rw [lp_ref11_All_0] at ih
    rw [lp_ref11_All_0, y_loop, gc, ← ih]
    (sym => simp [Qa,Qc,Qd,Qe,Qi,Qj,Qm,Qn,Qo,Qr,Qt,Q4,Xa,Xd,Xs,Xy,X5,Ya,Yh,Ys,Yu,Yy,Y9,Za,Zb,Zc,Ze,Zg,Zh,Zk,Zl,Zo,Zt,Zv,Zw,Z3,Jj,Jk,Jm,Jn,Jo,Jr,Js,Ju,Jv,Ux,U0,U4,U5,Vb,Ve,Vo,Vq,Vr,Vt,Vv,Vw,Vy,Vz,V0,V3,Wd,We,Hp,Hs,Hw,H1,Ni,Nk,Nl,Nm,No,Nw,Be,q8R0.eq_1,q8R1.eq_1,q8R2.eq_1,q8R3.eq_1,q8R4.eq_1,q8R6.eq_1,q8R7.eq_1,q8R5.eq_1,q8R8.eq_1,c_ref11_All.eq_1,c_ref11_All_L0.eq_1,al,q,a1,hw,hs,gl,gt,gd,gv])
theorem all_P (l : List Act') (f f2 : Bool) (hl : l.length ≤ 1000000) (ha : ∀ a ∈ l, a.ps.length ≤ 1000000 ∧ a.ts.length ≤ 1000000) : aP G FT n_ref11_All [.data false 6 (actG l) f, .data false 6 (actG l) f2] = some (.bool true) := by
  have k := all_loop G l f f2 hl ha l.length 0 (by omega)
  simp only [Int.natCast_zero] at k
  have al := actG_len l
  unfold aP
  rw [run_ref11_All]
  (sym => simp [Qb,Qc,Qd,Qe,Qi,Qj,Qr,Qt,Xa,Xy,X9,Yh,Y1,Y5,Y7,Y9,Za,Zb,Zc,Ze,Zg,Zh,Zi,Zj,Zk,Zl,Zm,Zr,Zs,Zt,Zu,Zv,Zw,Z3,Jj,Jk,Jn,Jq,Jr,Jv,Jx,Wk,Nl,Nw,Be,q8R0.eq_1,q8R1.eq_1,q8R2.eq_1,q8R3.eq_1,q8R4.eq_1,q8R6.eq_1,q8R7.eq_1,q8R5.eq_1,q8R8.eq_1,c_ref11_All.eq_1,k,al])
theorem lim_lens {a : Act'} (h : Lim a) : a.ps.length ≤ 1000000 ∧ a.ts.length ≤ 1000000 := by
  rcases h with ⟨c, rfl, _⟩ | ⟨c, rfl, _⟩ | ⟨c, s, rfl, _⟩ | ⟨c, m, s, ps, pf, rfl, _, _, _, h, _⟩ | ⟨ts, rfl, h⟩
  · exact ⟨by simp [actC], by simp [actC]⟩
  · exact ⟨by simp [actC], by simp [actC]⟩
  · exact ⟨by simp [escA], by simp [escA]⟩
  · exact ⟨by simp [csiA]; omega, by simp [csiA]⟩
  · exact ⟨by simp [oscT], by simp [oscT]; omega⟩
end Go.Proofs.Ytkkcblfoaldckaa
