/- SessionOthers: the law. Conditions: as each statement says. -/
import Derived.Test.YthcnhibjddomdaaSeh
import Derived.Test.YthcnhibjddomdaaSei
import Derived.Test.YthcnhibjddomdaaSej
import Derived.Test.YthcnhibjddomdaaSek
set_option linter.unusedVariables false
set_option linter.unusedSimpArgs false
set_option linter.unusedSectionVars false
set_option maxRecDepth 20000
set_option maxHeartbeats 8000000
namespace Go.Proofs.Ythcnhibjddomdaa
open Go
variable (G : Nat → Option (List AV))
theorem oth_loop0 (s x : Ses) (hm : x.mem = s.mem) (hl : s.mem.length ≤ 1000) (D : List (List AV)) (j : Nat) : ∀ (m i : Nat), i + m = s.mem.length →
    aE G FT 0 lp_law30_SessionOthers_0 ⟨[(1, .int .i64 j), (3, .ptr 0 0 0 0), (5, .ptr 1 0 0 0), (7, .ptr 2 0 0 0), (9, .int .i64 i)], [⟨33, 0, true, [sC s]⟩, ⟨4, 0, true, D⟩, ⟨33, 0, true, [sC x]⟩]⟩ =
      some (.exit 0, ⟨[(1, .int .i64 j), (3, .ptr 0 0 0 0), (5, .ptr 1 0 0 0), (7, .ptr 2 0 0 0), (9, .int .i64 s.mem.length), (75, .bool false)], [⟨33, 0, true, [sC s]⟩, ⟨4, 0, true, D⟩, ⟨33, 0, true, [sC x]⟩]⟩) := by
  have b0 := sC_0 s
  have b1 := sC_0 x
  rw [hm] at b1
  have hln := mbs_len s.mem
  intro m
  induction m with
  | zero =>
    intro i hi
    rw [lp_law30_SessionOthers_0, y_loop]
    obtain rfl : i = s.mem.length := by omega
    have e0 : decide ((s.mem.length : Int) < s.mem.length) = false := by simp
    (sym => simp [Qa,Qc,Qd,Qe,Qi,Qj,Qr,Qt,Q4,Xa,Xb,Xp,Xs,Xy,X5,Ya,Yh,Yr,Ys,Yt,Yu,Yv,Yy,Y9,Za,Zb,Zc,Ze,Zg,Zh,Zk,Zl,Zm,Zn,Zt,Zv,Zw,Zx,Zy,Zz,Z0,Z3,Jg,Jj,Jk,Jm,Jn,Jo,Jr,Js,Ju,Jv,Kh,Kk,Kl,Km,Ut,Ux,U4,U5,U7,Vb,Vk,Vm,Vo,Vp,Vq,Vr,Vs,Vt,Vu,Vv,Vw,Vx,Vy,Vz,V0,Hh,Hi,Ho,Hp,Hq,Hs,Hu,Hv,Hw,H1,H4,H5,H6,Ni,Nk,Nl,No,Nu,Nw,Nx,Be,q7R0.eq_1,q7R1.eq_1,q7R2.eq_1,q7R3.eq_1,q7R4.eq_1,q7R5.eq_1,q7R6.eq_1,q7R7.eq_1,q7R8.eq_1,q7R9.eq_1,q7R10.eq_1,q7R11.eq_1,q7R13.eq_1,q7R14.eq_1,q7R12.eq_1,q7R15.eq_1,q7R16.eq_1,q7R18.eq_1,q7R19.eq_1,q7R17.eq_1,q7R20.eq_1,q7R21.eq_1,q7R22.eq_1,q7R23.eq_1,c_law30_SessionOthers.eq_1,c_law30_SessionOthers_L0.eq_1,e0,hln,b0])
  | succ m ih =>
    intro i hi
    have hlt : i < s.mem.length := by omega
    have hlt' : (i : Int) < s.mem.length := by omega
    have hw := wrap_nat (n := i) (by omega)
    have hg := mbs_at hlt
    have ih := ih (i + 1) (by omega)
    rw [lp_law30_SessionOthers_0] at ih
    rw [← ih, lp_law30_SessionOthers_0, y_loop]
    (sym => simp [Qa,Qc,Qd,Qe,Qi,Qj,Qr,Qt,Q4,Xa,Xb,Xp,Xs,Xy,X5,Ya,Yh,Yr,Ys,Yt,Yu,Yv,Yy,Y9,Za,Zb,Zc,Ze,Zg,Zh,Zk,Zl,Zm,Zn,Zt,Zv,Zw,Zx,Zy,Zz,Z0,Z3,Jg,Jj,Jk,Jm,Jn,Jo,Jr,Js,Ju,Jv,Kh,Kk,Kl,Km,Ut,Ux,U4,U5,U7,Vb,Vk,Vm,Vo,Vp,Vq,Vr,Vs,Vt,Vu,Vv,Vw,Vx,Vy,Vz,V0,Hh,Hi,Ho,Hp,Hq,Hs,Hu,Hv,Hw,H1,H4,H5,H6,Ni,Nk,Nl,No,Nu,Nw,Nx,Be,q7R0.eq_1,q7R1.eq_1,q7R2.eq_1,q7R3.eq_1,q7R4.eq_1,q7R5.eq_1,q7R6.eq_1,q7R7.eq_1,q7R8.eq_1,q7R9.eq_1,q7R10.eq_1,q7R11.eq_1,q7R13.eq_1,q7R14.eq_1,q7R12.eq_1,q7R15.eq_1,q7R16.eq_1,q7R18.eq_1,q7R19.eq_1,q7R17.eq_1,q7R20.eq_1,q7R21.eq_1,q7R22.eq_1,q7R23.eq_1,c_law30_SessionOthers.eq_1,c_law30_SessionOthers_L0.eq_1,hlt',hg,hln,hw,b0,b1])
theorem oth_loop1 (s x : Ses) (j : Nat) (hj : j < 9) (hk : ∀ n, n < 9 → n ≠ j → x.k n = s.k n) (hwd : ∀ n, n < 9 → n ≠ j → x.w n = s.w n) (D : List (List AV)) : ∀ (m i : Nat), i + m = 9 →
    aE G FT 0 lp_law30_SessionOthers_1 ⟨[(1, .int .i64 j), (3, .ptr 0 0 0 0), (5, .ptr 1 0 0 0), (7, .ptr 2 0 0 0), (10, .int .i64 i)], [⟨33, 0, true, [sC s]⟩, ⟨4, 0, true, D⟩, ⟨33, 0, true, [sC x]⟩]⟩ =
      some (.exit 2, ⟨[(1, .int .i64 j), (3, .ptr 0 0 0 0), (5, .ptr 1 0 0 0), (7, .ptr 2 0 0 0), (10, .int .i64 9), (90, .bool false)], [⟨33, 0, true, [sC s]⟩, ⟨4, 0, true, D⟩, ⟨33, 0, true, [sC x]⟩]⟩) := by
  have b0 := sC_len s
  have b1 := sC_len x
  intro m
  induction m with
  | zero =>
    intro i hi
    rw [lp_law30_SessionOthers_1, y_loop]
    obtain rfl : i = 9 := by omega
    have e9 : ((9 : Nat) : Int) = 9 := rfl
    (sym => simp [Qa,Qc,Qd,Qe,Qf,Qg,Qh,Qi,Qj,Qr,Qt,Qu,Q4,Xa,Xb,Xp,Xt,X5,X9,Ya,Yr,Yt,Yu,Yv,Yz,Y9,Za,Zb,Zc,Ze,Zg,Zh,Zk,Zl,Zm,Zn,Zt,Zv,Zw,Zx,Zy,Zz,Z0,Z3,Ja,Jb,Jg,Jj,Jk,Jm,Jn,Jo,Jr,Js,Ju,Jv,Kh,Kk,Kl,Km,Ut,Ux,U4,U5,U7,Vb,Vk,Vm,Vo,Vp,Vq,Vr,Vs,Vt,Vu,Vv,Vw,Vx,Vy,Vz,V0,Hh,Hi,Hp,Hu,Hv,Hw,H1,H4,H5,H6,Nc,Ne,Ni,Nk,Nl,Nm,No,Nu,Nw,Nx,Nz,Be,Bh,q7R0.eq_1,q7R1.eq_1,q7R2.eq_1,q7R3.eq_1,q7R4.eq_1,q7R5.eq_1,q7R6.eq_1,q7R7.eq_1,q7R8.eq_1,q7R9.eq_1,q7R10.eq_1,q7R11.eq_1,q7R13.eq_1,q7R14.eq_1,q7R12.eq_1,q7R15.eq_1,q7R16.eq_1,q7R18.eq_1,q7R19.eq_1,q7R17.eq_1,q7R20.eq_1,q7R21.eq_1,q7R22.eq_1,q7R23.eq_1,c_law30_SessionOthers.eq_1,c_law30_SessionOthers_L1.eq_1,e9])
  | succ m ih =>
    intro i hi
    have hi9 : i < 9 := by omega
    have hi9' : (i : Int) < 9 := by omega
    have hw := wrap_nat (n := i) (by omega)
    have ih := ih (i + 1) (by omega)
    rw [lp_law30_SessionOthers_1] at ih
    rw [← ih, lp_law30_SessionOthers_1, y_loop]
    by_cases e : i = j
    · subst e
      (sym => simp [Qa,Qc,Qd,Qe,Qf,Qg,Qh,Qi,Qj,Qr,Qt,Qu,Q4,Xa,Xb,Xp,Xt,X5,X9,Ya,Yr,Yt,Yu,Yv,Yz,Y9,Za,Zb,Zc,Ze,Zg,Zh,Zk,Zl,Zm,Zn,Zt,Zv,Zw,Zx,Zy,Zz,Z0,Z3,Ja,Jb,Jg,Jj,Jk,Jm,Jn,Jo,Jr,Js,Ju,Jv,Kh,Kk,Kl,Km,Ut,Ux,U4,U5,U7,Vb,Vk,Vm,Vo,Vp,Vq,Vr,Vs,Vt,Vu,Vv,Vw,Vx,Vy,Vz,V0,Hh,Hi,Hp,Hu,Hv,Hw,H1,H4,H5,H6,Nc,Ne,Ni,Nk,Nl,Nm,No,Nu,Nw,Nx,Nz,Be,Bh,q7R0.eq_1,q7R1.eq_1,q7R2.eq_1,q7R3.eq_1,q7R4.eq_1,q7R5.eq_1,q7R6.eq_1,q7R7.eq_1,q7R8.eq_1,q7R9.eq_1,q7R10.eq_1,q7R11.eq_1,q7R13.eq_1,q7R14.eq_1,q7R12.eq_1,q7R15.eq_1,q7R16.eq_1,q7R18.eq_1,q7R19.eq_1,q7R17.eq_1,q7R20.eq_1,q7R21.eq_1,q7R22.eq_1,q7R23.eq_1,c_law30_SessionOthers.eq_1,c_law30_SessionOthers_L1.eq_1,hi9',hw])
    · have e' : ¬ (i : Int) = j := by omega
      have ka := sC_kat s hi9
      have kb := sC_kat x hi9
      have wa := sC_wat s hi9
      have wb := sC_wat x hi9
      rw [hk i hi9 e] at kb
      rw [hwd i hi9 e] at wb
      have q1 : 24 + i < 33 := by omega
      have q2 : 4 + i * 2 + 2 ≤ 33 := by omega
      generalize sC s = cs at *
      generalize sC x = cx at *
      (sym => simp [Qa,Qc,Qd,Qe,Qf,Qg,Qh,Qi,Qj,Qr,Qt,Qu,Q4,Xa,Xb,Xp,Xt,X5,X9,Ya,Yr,Yt,Yu,Yv,Yz,Y9,Za,Zb,Zc,Ze,Zg,Zh,Zk,Zl,Zm,Zn,Zt,Zv,Zw,Zx,Zy,Zz,Z0,Z3,Ja,Jb,Jg,Jj,Jk,Jm,Jn,Jo,Jr,Js,Ju,Jv,Kh,Kk,Kl,Km,Ut,Ux,U4,U5,U7,Vb,Vk,Vm,Vo,Vp,Vq,Vr,Vs,Vt,Vu,Vv,Vw,Vx,Vy,Vz,V0,Hh,Hi,Hp,Hu,Hv,Hw,H1,H4,H5,H6,Nc,Ne,Ni,Nk,Nl,Nm,No,Nu,Nw,Nx,Nz,Be,Bh,q7R0.eq_1,q7R1.eq_1,q7R2.eq_1,q7R3.eq_1,q7R4.eq_1,q7R5.eq_1,q7R6.eq_1,q7R7.eq_1,q7R8.eq_1,q7R9.eq_1,q7R10.eq_1,q7R11.eq_1,q7R13.eq_1,q7R14.eq_1,q7R12.eq_1,q7R15.eq_1,q7R16.eq_1,q7R18.eq_1,q7R19.eq_1,q7R17.eq_1,q7R20.eq_1,q7R21.eq_1,q7R22.eq_1,q7R23.eq_1,c_law30_SessionOthers.eq_1,c_law30_SessionOthers_L1.eq_1,hi9',hw,e',ka,kb,wa,wb,q1,q2,b0,b1])
theorem others_P (s : Ses) (id : Int) (d : Dd) : aP G FT n_law30_SessionOthers [.agg (sC s), .int .i64 id, .agg (dC d)] = some (.bool true) := by
  have hK := known30_P G
  have hGr := great30_P G s
  have a1 := sC_len s
  have a2 := sC_st s
  have a3 := sC_all s
  have a4 := sC_v s
  have a0 := sC_0 s
  have b1 : (dC d).length = 4 := rfl
  have b2 : AV.stableL (dC d) = true := by simp [dC, AV.stableL, AV.stable]
  have b3 : (dC d).take 4 = dC d := rfl
  have b4 : ∀ h, aviewL h (dC d) = some (dC d) := fun h => by simp [dC, aviewL, aview]
  have b5 : (dC d)[1]? = some (.data false 1 (byt d.2.1) d.2.2.2.2) := rfl
  have b6 : (dC d)[0]? = some (.int .i64 d.1) := rfl
  have bl := byt_len d.2.1
  have nl : (100 : Int) < d.2.1.length ↔ 100 < d.2.1.length := by omega
  unfold aP
  rw [run_law30_SessionOthers]
  cases hg : greatS s with
  | true =>
    generalize dC d = DC at *
    (sym => simp [Qb,Qc,Qd,Qe,Qf,Qg,Qi,Qj,Qm,Qn,Qo,Qr,Qt,Qu,Qv,Qw,Q4,Q5,Xa,Xd,Xp,Xt,Xw,Xx,Xy,X5,X6,X8,X9,Ya,Yb,Yc,Yh,Yj,Yr,Yt,Yu,Yv,Yz,Y1,Y5,Y7,Y9,Za,Zb,Zc,Zd,Ze,Zg,Zh,Zi,Zj,Zk,Zl,Zm,Zn,Zo,Zr,Zs,Zt,Zu,Zv,Zw,Zy,Z0,Z1,Z3,Ja,Jb,Jj,Jk,Jl,Jn,Jq,Jr,Jv,Jx,J1,J2,J3,Ue,Uf,Ug,Ul,V3,V6,Wd,We,Wk,Hh,Hi,Hk,Hl,Hp,Hr,Hs,Ht,Hu,Hv,Hw,Nc,Ne,Ni,Nk,Nl,Nm,No,Nw,Nx,Nz,N0,Be,Bh,q7R0.eq_1,q7R1.eq_1,q7R2.eq_1,q7R3.eq_1,q7R4.eq_1,q7R5.eq_1,q7R6.eq_1,q7R7.eq_1,q7R8.eq_1,q7R9.eq_1,q7R10.eq_1,q7R11.eq_1,q7R13.eq_1,q7R14.eq_1,q7R12.eq_1,q7R15.eq_1,q7R16.eq_1,q7R18.eq_1,q7R19.eq_1,q7R17.eq_1,q7R20.eq_1,q7R21.eq_1,q7R22.eq_1,q7R23.eq_1,c_law30_SessionOthers.eq_1,hK,hGr,hg,a1,a2,a3,a4,b1,b2])
  | false =>
  obtain ⟨l1, l2, l3, ok⟩ := great30_ok hg
  have hM := smay30_P G s ok
  by_cases hd : 100 < d.2.1.length
  · generalize dC d = DC at *
    (sym => simp [Qb,Qc,Qd,Qe,Qf,Qg,Qi,Qj,Qm,Qn,Qo,Qr,Qt,Qu,Qv,Qw,Q4,Q5,Xa,Xd,Xp,Xt,Xw,Xx,Xy,X5,X6,X8,X9,Ya,Yb,Yc,Yh,Yj,Yr,Yt,Yu,Yv,Yz,Y1,Y5,Y7,Y9,Za,Zb,Zc,Zd,Ze,Zg,Zh,Zi,Zj,Zk,Zl,Zm,Zn,Zo,Zr,Zs,Zt,Zu,Zv,Zw,Zy,Z0,Z1,Z3,Ja,Jb,Jj,Jk,Jl,Jn,Jq,Jr,Jv,Jx,J1,J2,J3,Ue,Uf,Ug,Ul,V3,V6,Wd,We,Wk,Hh,Hi,Hk,Hl,Hp,Hr,Hs,Ht,Hu,Hv,Hw,Nc,Ne,Ni,Nk,Nl,Nm,No,Nw,Nx,Nz,N0,Be,Bh,q7R0.eq_1,q7R1.eq_1,q7R2.eq_1,q7R3.eq_1,q7R4.eq_1,q7R5.eq_1,q7R6.eq_1,q7R7.eq_1,q7R8.eq_1,q7R9.eq_1,q7R10.eq_1,q7R11.eq_1,q7R13.eq_1,q7R14.eq_1,q7R12.eq_1,q7R15.eq_1,q7R16.eq_1,q7R18.eq_1,q7R19.eq_1,q7R17.eq_1,q7R20.eq_1,q7R21.eq_1,q7R22.eq_1,q7R23.eq_1,c_law30_SessionOthers.eq_1,hK,hGr,hg,a1,a2,a3,a4,b1,b2,b5,bl,nl,hd])
  cases hs : sesB s with
  | false =>
    generalize dC d = DC at *
    (sym => simp [Qb,Qc,Qd,Qe,Qf,Qg,Qi,Qj,Qm,Qn,Qo,Qr,Qt,Qu,Qv,Qw,Q4,Q5,Xa,Xd,Xp,Xt,Xw,Xx,Xy,X5,X6,X8,X9,Ya,Yb,Yc,Yh,Yj,Yr,Yt,Yu,Yv,Yz,Y1,Y5,Y7,Y9,Za,Zb,Zc,Zd,Ze,Zg,Zh,Zi,Zj,Zk,Zl,Zm,Zn,Zo,Zr,Zs,Zt,Zu,Zv,Zw,Zy,Z0,Z1,Z3,Ja,Jb,Jj,Jk,Jl,Jn,Jq,Jr,Jv,Jx,J1,J2,J3,Ue,Uf,Ug,Ul,V3,V6,Wd,We,Wk,Hh,Hi,Hk,Hl,Hp,Hr,Hs,Ht,Hu,Hv,Hw,Nc,Ne,Ni,Nk,Nl,Nm,No,Nw,Nx,Nz,N0,Be,Bh,q7R0.eq_1,q7R1.eq_1,q7R2.eq_1,q7R3.eq_1,q7R4.eq_1,q7R5.eq_1,q7R6.eq_1,q7R7.eq_1,q7R8.eq_1,q7R9.eq_1,q7R10.eq_1,q7R11.eq_1,q7R13.eq_1,q7R14.eq_1,q7R12.eq_1,q7R15.eq_1,q7R16.eq_1,q7R18.eq_1,q7R19.eq_1,q7R17.eq_1,q7R20.eq_1,q7R21.eq_1,q7R22.eq_1,q7R23.eq_1,c_law30_SessionOthers.eq_1,hK,hGr,hg,hM,hs,a1,a2,a3,a4,b1,b2,b5,bl,nl,hd])
  | true =>
  by_cases i1 : id < 1
  · generalize dC d = DC at *
    (sym => simp [Qb,Qc,Qd,Qe,Qf,Qg,Qi,Qj,Qm,Qn,Qo,Qr,Qt,Qu,Qv,Qw,Q4,Q5,Xa,Xd,Xp,Xt,Xw,Xx,Xy,X5,X6,X8,X9,Ya,Yb,Yc,Yh,Yj,Yr,Yt,Yu,Yv,Yz,Y1,Y5,Y7,Y9,Za,Zb,Zc,Zd,Ze,Zg,Zh,Zi,Zj,Zk,Zl,Zm,Zn,Zo,Zr,Zs,Zt,Zu,Zv,Zw,Zy,Z0,Z1,Z3,Ja,Jb,Jj,Jk,Jl,Jn,Jq,Jr,Jv,Jx,J1,J2,J3,Ue,Uf,Ug,Ul,V3,V6,Wd,We,Wk,Hh,Hi,Hk,Hl,Hp,Hr,Hs,Ht,Hu,Hv,Hw,Nc,Ne,Ni,Nk,Nl,Nm,No,Nw,Nx,Nz,N0,Be,Bh,q7R0.eq_1,q7R1.eq_1,q7R2.eq_1,q7R3.eq_1,q7R4.eq_1,q7R5.eq_1,q7R6.eq_1,q7R7.eq_1,q7R8.eq_1,q7R9.eq_1,q7R10.eq_1,q7R11.eq_1,q7R13.eq_1,q7R14.eq_1,q7R12.eq_1,q7R15.eq_1,q7R16.eq_1,q7R18.eq_1,q7R19.eq_1,q7R17.eq_1,q7R20.eq_1,q7R21.eq_1,q7R22.eq_1,q7R23.eq_1,c_law30_SessionOthers.eq_1,hK,hGr,hg,hM,hs,a1,a2,a3,a4,b1,b2,b5,bl,nl,hd,i1])
  by_cases i8 : 8 < id
  · generalize dC d = DC at *
    (sym => simp [Qb,Qc,Qd,Qe,Qf,Qg,Qi,Qj,Qm,Qn,Qo,Qr,Qt,Qu,Qv,Qw,Q4,Q5,Xa,Xd,Xp,Xt,Xw,Xx,Xy,X5,X6,X8,X9,Ya,Yb,Yc,Yh,Yj,Yr,Yt,Yu,Yv,Yz,Y1,Y5,Y7,Y9,Za,Zb,Zc,Zd,Ze,Zg,Zh,Zi,Zj,Zk,Zl,Zm,Zn,Zo,Zr,Zs,Zt,Zu,Zv,Zw,Zy,Z0,Z1,Z3,Ja,Jb,Jj,Jk,Jl,Jn,Jq,Jr,Jv,Jx,J1,J2,J3,Ue,Uf,Ug,Ul,V3,V6,Wd,We,Wk,Hh,Hi,Hk,Hl,Hp,Hr,Hs,Ht,Hu,Hv,Hw,Nc,Ne,Ni,Nk,Nl,Nm,No,Nw,Nx,Nz,N0,Be,Bh,q7R0.eq_1,q7R1.eq_1,q7R2.eq_1,q7R3.eq_1,q7R4.eq_1,q7R5.eq_1,q7R6.eq_1,q7R7.eq_1,q7R8.eq_1,q7R9.eq_1,q7R10.eq_1,q7R11.eq_1,q7R13.eq_1,q7R14.eq_1,q7R12.eq_1,q7R15.eq_1,q7R16.eq_1,q7R18.eq_1,q7R19.eq_1,q7R17.eq_1,q7R20.eq_1,q7R21.eq_1,q7R22.eq_1,q7R23.eq_1,c_law30_SessionOthers.eq_1,hK,hGr,hg,hM,hs,a1,a2,a3,a4,b1,b2,b5,bl,nl,hd,i1,i8])
  obtain ⟨j, rfl⟩ : ∃ j : Nat, id = (j : Int) := ⟨id.toNat, by omega⟩
  have hj1 : 1 ≤ j := by omega
  have hj8 : j ≤ 8 := by omega
  have hj9 : (j : Int) < 9 := by omega
  have hb : 24 + j < 33 := by omega
  have ka := sC_kat s (show j < 9 by omega)
  have hr := cnt_range hs j (by omega)
  have hw : IntKind.i64.wrap (s.k j + 1) = s.k j + 1 := wrap_in _ (by omega) (by omega)
  have hT := take30_P G s ok j (s.k j + 1) d (by omega)
  have x1 := sC_len (takeS s j (s.k j + 1) d).1
  have x2 := sC_st (takeS s j (s.k j + 1) d).1
  have x3 := sC_all (takeS s j (s.k j + 1) d).1
  have x4 := sC_v (takeS s j (s.k j + 1) d).1
  have x0 := sC_0 (takeS s j (s.k j + 1) d).1
  have x6 := sC_3 (takeS s j (s.k j + 1) d).1
  have xd : (sC (takeS s j (s.k j + 1) d).1).drop 33 = [] := rfl
  have s1 := sC_1 s
  have s3 := sC_3 s
  by_cases ht : (takeS s j (s.k j + 1) d).2 = 0
  · obtain ⟨j2, hj2, h1, h8, hth, hk, hn, hdd, e⟩ := take_some hs ht
    have : j2 = j := by omega
    subst this
    have hso := take_ok hs ht
    have hme : (takeS s j2 (s.k j2 + 1) d).1.mem = s.mem := by rw [e, doS_mem]; rfl
    have hke : (takeS s j2 (s.k j2 + 1) d).1.k = fun x => if x = j2 then s.k j2 + 1 else s.k x := by rw [e, doS_k]; rfl
    have hwe : ∀ m, m ≠ j2 → (takeS s j2 (s.k j2 + 1) d).1.w m = s.w m := fun m hm => by rw [e, doS_w _ _ _ _ hm]; rfl
    have hqe : (takeS s j2 (s.k j2 + 1) d).1.q.length ≤ s.q.length + 1 := by
      rw [e]
      have hq := (ses_parts (cpS_ok hs)).2.2.1
      have := doS_ql (s := cntS (cpS s) j2 (s.k j2 + 1)) hq j2 (s.k j2 + 1) d
      have e2 : (cntS (cpS s) j2 (s.k j2 + 1)).q = cpQ s.q := cpS_q (ses_parts hs).2.2.1
      rw [e2, cpQ_len] at this
      exact this
    have hkey : d.1 = 1 → s.h ≠ j2 → sameS (cntS (takeS s j2 (s.k j2 + 1) d).1 j2 (s.k j2)) s = true := by
      intro hd1 hh
      have e3 : (takeS s j2 (s.k j2 + 1) d).1 = cntS (cpS s) j2 (s.k j2 + 1) := by
        rw [e]; unfold doS
        rw [if_pos hd1]
        exact if_neg hh
      rw [e3]
      have eq : (cntS (cntS (cpS s) j2 (s.k j2 + 1)) j2 (s.k j2)).q = cpQ s.q := cpS_q (ses_parts hs).2.2.1
      unfold sameS
      rw [eq, sameQ_cp]
      have c1 : (cntS (cntS (cpS s) j2 (s.k j2 + 1)) j2 (s.k j2)).w = s.w := rfl
      have c2 : ∀ n, (cntS (cntS (cpS s) j2 (s.k j2 + 1)) j2 (s.k j2)).k n = s.k n := fun n => by
        show (if n = j2 then s.k j2 else if n = j2 then _ else s.k n) = s.k n
        split
        · rename_i e; rw [e]
        · rfl
      rw [c1, wEq_self fun _ _ => rfl, kEq_self fun n _ => c2 n]
      have d1 : (cntS (cntS (cpS s) j2 (s.k j2 + 1)) j2 (s.k j2)).mem = s.mem := rfl
      have d2 : (cntS (cntS (cpS s) j2 (s.k j2 + 1)) j2 (s.k j2)).h = s.h := rfl
      have d3 : (cntS (cntS (cpS s) j2 (s.k j2 + 1)) j2 (s.k j2)).tq = s.tq := rfl
      have d4 : (cntS (cntS (cpS s) j2 (s.k j2 + 1)) j2 (s.k j2)).r = s.r := rfl
      have d5 : (cntS (cntS (cpS s) j2 (s.k j2 + 1)) j2 (s.k j2)).c = s.c := rfl
      rw [d1, d2, d3, d4, d5]
      simp
    generalize (takeS s j2 (s.k j2 + 1) d).1 = x at *
    have hMx := smay30_P G x (okS_may hso)
    have hSx := same30_P G (cntS x j2 (s.k j2)) s (show okS x from okS_may hso)
    have kx := sC_kat x (show j2 < 9 by omega)
    have hkj : x.k j2 = s.k j2 + 1 := by rw [hke]; exact if_pos rfl
    rw [hkj] at kx
    have hw2 : IntKind.i64.wrap (s.k j2 + 1 - 1) = s.k j2 := by rw [wrap_in _ (by omega) (by omega)]; omega
    have ce := cntS_eq x (show j2 < 9 by omega) (s.k j2)
    have y1 := sC_len (cntS x j2 (s.k j2))
    have y3 := sC_all (cntS x j2 (s.k j2))
    have y4 := sC_v (cntS x j2 (s.k j2))
    have k0 := fun D => oth_loop0 G s x hme (by omega) D j2 s.mem.length 0 (by omega)
    have k1 := fun D => oth_loop1 G s x j2 (by omega) (fun n _ hn => by rw [hke]; exact if_neg hn) (fun n _ hn => hwe n hn) D 9 0 (by omega)
    simp only [Int.natCast_zero] at k0 k1
    rw [hme] at x0
    have ml := mbs_len s.mem
    have ql := pcs_len s.q
    have qx := pcs_len x.q
    have wq : IntKind.i64.wrap ((s.q.length : Int) + 1) = ((s.q.length + 1 : Nat) : Int) := wrap_nat (by omega)
    have lq : (x.q.length : Int) ≤ ((s.q.length + 1 : Nat) : Int) := by omega
    rw [ht] at hT
    clear hwe hke e
    generalize sC (cntS x j2 (s.k j2)) = scy at *
    generalize sC x = scx at *
    generalize sC s = scs at *
    generalize dC d = DC at *
    by_cases hd1 : d.1 = 1
    · by_cases hh : s.h = j2
      · (sym => simp [Qb,Qc,Qd,Qe,Qf,Qg,Qi,Qj,Qm,Qn,Qo,Qr,Qt,Qu,Qv,Qw,Q4,Q5,Xa,Xd,Xp,Xt,Xw,Xx,Xy,X5,X6,X8,X9,Ya,Yb,Yc,Yh,Yj,Yr,Yt,Yu,Yv,Yz,Y1,Y5,Y7,Y9,Za,Zb,Zc,Zd,Ze,Zg,Zh,Zi,Zj,Zk,Zl,Zm,Zn,Zo,Zr,Zs,Zt,Zu,Zv,Zw,Zy,Z0,Z1,Z3,Ja,Jb,Jj,Jk,Jl,Jn,Jq,Jr,Jv,Jx,J1,J2,J3,Ue,Uf,Ug,Ul,V3,V6,Wd,We,Wk,Hh,Hi,Hk,Hl,Hp,Hr,Hs,Ht,Hu,Hv,Hw,Nc,Ne,Ni,Nk,Nl,Nm,No,Nw,Nx,Nz,N0,Be,Bh,q7R0.eq_1,q7R1.eq_1,q7R2.eq_1,q7R3.eq_1,q7R4.eq_1,q7R5.eq_1,q7R6.eq_1,q7R7.eq_1,q7R8.eq_1,q7R9.eq_1,q7R10.eq_1,q7R11.eq_1,q7R13.eq_1,q7R14.eq_1,q7R12.eq_1,q7R15.eq_1,q7R16.eq_1,q7R18.eq_1,q7R19.eq_1,q7R17.eq_1,q7R20.eq_1,q7R21.eq_1,q7R22.eq_1,q7R23.eq_1,c_law30_SessionOthers.eq_1,hK,hGr,hg,hM,hs,hT,a0,a1,a2,a3,a4,b1,b2,b3,b4,b5,b6,bl,nl,hd,i1,i8,hj9,ka,hw,x0,x1,x2,x3,x4,x6,xd,List.append_nil,kx,k0,k1,s1,s3,ml,ql,qx,wq,lq,hMx,hso,hd1,hh])
      · have hsm := hkey hd1 hh
        (sym => simp [Qb,Qc,Qd,Qe,Qf,Qg,Qi,Qj,Qm,Qn,Qo,Qr,Qt,Qu,Qv,Qw,Q4,Q5,Xa,Xd,Xp,Xt,Xw,Xx,Xy,X5,X6,X8,X9,Ya,Yb,Yc,Yh,Yj,Yr,Yt,Yu,Yv,Yz,Y1,Y5,Y7,Y9,Za,Zb,Zc,Zd,Ze,Zg,Zh,Zi,Zj,Zk,Zl,Zm,Zn,Zo,Zr,Zs,Zt,Zu,Zv,Zw,Zy,Z0,Z1,Z3,Ja,Jb,Jj,Jk,Jl,Jn,Jq,Jr,Jv,Jx,J1,J2,J3,Ue,Uf,Ug,Ul,V3,V6,Wd,We,Wk,Hh,Hi,Hk,Hl,Hp,Hr,Hs,Ht,Hu,Hv,Hw,Nc,Ne,Ni,Nk,Nl,Nm,No,Nw,Nx,Nz,N0,Be,Bh,q7R0.eq_1,q7R1.eq_1,q7R2.eq_1,q7R3.eq_1,q7R4.eq_1,q7R5.eq_1,q7R6.eq_1,q7R7.eq_1,q7R8.eq_1,q7R9.eq_1,q7R10.eq_1,q7R11.eq_1,q7R13.eq_1,q7R14.eq_1,q7R12.eq_1,q7R15.eq_1,q7R16.eq_1,q7R18.eq_1,q7R19.eq_1,q7R17.eq_1,q7R20.eq_1,q7R21.eq_1,q7R22.eq_1,q7R23.eq_1,c_law30_SessionOthers.eq_1,hK,hGr,hg,hM,hs,hT,a0,a1,a2,a3,a4,b1,b2,b3,b4,b5,b6,bl,nl,hd,i1,i8,hj9,hb,ka,hw,hw2,x0,x1,x2,x3,x4,x6,xd,List.append_nil,kx,k0,k1,s1,s3,ml,ql,qx,ce,y1,y3,y4,hSx,hsm,hd1,hh])
    · (sym => simp [Qb,Qc,Qd,Qe,Qf,Qg,Qi,Qj,Qm,Qn,Qo,Qr,Qt,Qu,Qv,Qw,Q4,Q5,Xa,Xd,Xp,Xt,Xw,Xx,Xy,X5,X6,X8,X9,Ya,Yb,Yc,Yh,Yj,Yr,Yt,Yu,Yv,Yz,Y1,Y5,Y7,Y9,Za,Zb,Zc,Zd,Ze,Zg,Zh,Zi,Zj,Zk,Zl,Zm,Zn,Zo,Zr,Zs,Zt,Zu,Zv,Zw,Zy,Z0,Z1,Z3,Ja,Jb,Jj,Jk,Jl,Jn,Jq,Jr,Jv,Jx,J1,J2,J3,Ue,Uf,Ug,Ul,V3,V6,Wd,We,Wk,Hh,Hi,Hk,Hl,Hp,Hr,Hs,Ht,Hu,Hv,Hw,Nc,Ne,Ni,Nk,Nl,Nm,No,Nw,Nx,Nz,N0,Be,Bh,q7R0.eq_1,q7R1.eq_1,q7R2.eq_1,q7R3.eq_1,q7R4.eq_1,q7R5.eq_1,q7R6.eq_1,q7R7.eq_1,q7R8.eq_1,q7R9.eq_1,q7R10.eq_1,q7R11.eq_1,q7R13.eq_1,q7R14.eq_1,q7R12.eq_1,q7R15.eq_1,q7R16.eq_1,q7R18.eq_1,q7R19.eq_1,q7R17.eq_1,q7R20.eq_1,q7R21.eq_1,q7R22.eq_1,q7R23.eq_1,c_law30_SessionOthers.eq_1,hK,hGr,hg,hM,hs,hT,a0,a1,a2,a3,a4,b1,b2,b3,b4,b5,b6,bl,nl,hd,i1,i8,hj9,ka,hw,x0,x1,x2,x3,x4,x6,xd,List.append_nil,kx,k0,k1,s1,s3,ml,ql,qx,wq,lq,hMx,hso,hd1])
  · have hz := take_none ht
    have xm : (takeS s j (s.k j + 1) d).1.mem = [] := by rw [hz]; rfl
    rw [xm] at x0
    generalize (takeS s j (s.k j + 1) d).1 = x at *
    generalize hte : (takeS s j (s.k j + 1) d).2 = te at *
    have mn : mbs [] = [] := rfl
    generalize sC x = scx at *
    generalize sC s = scs at *
    generalize dC d = DC at *
    (sym => simp [Qb,Qc,Qd,Qe,Qf,Qg,Qi,Qj,Qm,Qn,Qo,Qr,Qt,Qu,Qv,Qw,Q4,Q5,Xa,Xd,Xp,Xt,Xw,Xx,Xy,X5,X6,X8,X9,Ya,Yb,Yc,Yh,Yj,Yr,Yt,Yu,Yv,Yz,Y1,Y5,Y7,Y9,Za,Zb,Zc,Zd,Ze,Zg,Zh,Zi,Zj,Zk,Zl,Zm,Zn,Zo,Zr,Zs,Zt,Zu,Zv,Zw,Zy,Z0,Z1,Z3,Ja,Jb,Jj,Jk,Jl,Jn,Jq,Jr,Jv,Jx,J1,J2,J3,Ue,Uf,Ug,Ul,V3,V6,Wd,We,Wk,Hh,Hi,Hk,Hl,Hp,Hr,Hs,Ht,Hu,Hv,Hw,Nc,Ne,Ni,Nk,Nl,Nm,No,Nw,Nx,Nz,N0,Be,Bh,q7R0.eq_1,q7R1.eq_1,q7R2.eq_1,q7R3.eq_1,q7R4.eq_1,q7R5.eq_1,q7R6.eq_1,q7R7.eq_1,q7R8.eq_1,q7R9.eq_1,q7R10.eq_1,q7R11.eq_1,q7R13.eq_1,q7R14.eq_1,q7R12.eq_1,q7R15.eq_1,q7R16.eq_1,q7R18.eq_1,q7R19.eq_1,q7R17.eq_1,q7R20.eq_1,q7R21.eq_1,q7R22.eq_1,q7R23.eq_1,c_law30_SessionOthers.eq_1,hK,hGr,hg,hM,hs,hT,a0,a1,a2,a3,a4,b1,b2,b3,b4,b5,bl,nl,hd,i1,i8,hj9,ka,hw,ht,x0,x1,x2,x3,x4,xd,List.append_nil,mn])
theorem law_SessionOthers (a0 : List AV) (a1 : AV) (a2 : List AV) (h0 : HasTys (.sl [.int .i64, .int .i64] :: .int .i64 :: .sl [.int .i64] :: .sl [.int .i64, .int .i64, .sl [.int .u8]] :: List.replicate 29 (.int .i64)) a0) (h1 : HasTy (.int .i64) a1) (h2 : HasTys [.int .i64, .sl [.int .u8], .int .i64, .int .i64] a2) :
    aP G FT n_law30_SessionOthers [.agg a0, a1, .agg a2] = some (.bool true) := by
  obtain ⟨s, rfl⟩ := ty_ses h0
  obtain ⟨id, rfl, _⟩ := ty_int h1
  obtain ⟨d, rfl⟩ := ty_deed h2
  exact others_P G s id d
end Go.Proofs.Ythcnhibjddomdaa
