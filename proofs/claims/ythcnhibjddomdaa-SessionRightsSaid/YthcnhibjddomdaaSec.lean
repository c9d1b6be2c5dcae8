/- Sessions: may a deed be; windows with another one. Conditions: as each statement says. -/
import Derived.Test.YthcnhibjddomdaaSeb
set_option linter.unusedVariables false
set_option linter.unusedSimpArgs false
set_option linter.unusedSectionVars false
set_option maxRecDepth 20000
set_option maxHeartbeats 8000000
namespace Go.Proofs.Ythcnhibjddomdaa
open Go
variable (G : Nat → Option (List AV))
/-- A deed: kind, text, rows, columns; is its text told full? -/
abbrev Dd := Int × List Int × Int × Int × Bool
def dC (d : Dd) : List AV := [.int .i64 d.1, .data false 1 (byt d.2.1) d.2.2.2.2, .int .i64 d.2.2.1, .int .i64 d.2.2.2.1]
def deedB (k : Int) (n : Nat) (r c : Int) : Bool :=
  if k = 1 then decide (1 ≤ n) && decide (n ≤ 16) && decide (r = 0) && decide (c = 0)
  else if k = 2 then sideB r && sideB c && decide (n = 0)
  else if k = 3 then decide (n = 0) && decide (r = 0) && decide (c = 0)
  else if k = 4 then decide (n = 0) && decide (r = 0) && decide (c = 0) else false
def deedD (d : Dd) : Bool := deedB d.1 d.2.1.length d.2.2.1 d.2.2.2.1
theorem imay1_run (n : Int) (h : List ARow) : aR G FT n_input_may_1 [.int .i64 n] h = some (.bool (sideB n), h) := by
  unfold sideB
  rw [run_input_may_1]
  by_cases h1 : 1 ≤ n
  · (sym => simp [Qb,Qd,Qe,Qf,Qg,Qi,Qj,Qr,Qt,Qu,Xa,Yb,Yd,Y1,Y5,Y7,Y9,Za,Zb,Zc,Ze,Zg,Zh,Zi,Zj,Zk,Zl,Zr,Zs,Zt,Zu,Zv,Zw,Z3,Ja,Jj,Jk,Jv,Jx,Nl,Nm,Np,Nr,Be,q5R0.eq_1,q5R1.eq_1,c_input_may_1.eq_1,h1])
  · (sym => simp [Qb,Qd,Qe,Qf,Qg,Qi,Qj,Qr,Qt,Qu,Xa,Yb,Yd,Y1,Y5,Y7,Y9,Za,Zb,Zc,Ze,Zg,Zh,Zi,Zj,Zk,Zl,Zr,Zs,Zt,Zu,Zv,Zw,Z3,Ja,Jj,Jk,Jv,Jx,Nl,Nm,Np,Nr,Be,q5R0.eq_1,q5R1.eq_1,c_input_may_1.eq_1,h1])
theorem imay_P (k : Int) (L : List (List AV)) (f : Bool) (r c : Int) : aP G FT n_input_may [.agg [.int .i64 k, .data false 1 L f, .int .i64 r, .int .i64 c]] = some (.bool (deedB k L.length r c)) := by
  have hS := imay1_run G
  have n1 : (1 : Int) ≤ L.length ↔ 1 ≤ L.length := by omega
  have n2 : (L.length : Int) ≤ 16 ↔ L.length ≤ 16 := by omega
  have n3 : (L.length : Int) = 0 ↔ L.length = 0 := by omega
  have s0 : sideB 0 = false := by decide
  unfold aP deedB
  rw [run_input_may]
  by_cases k1 : k = 1
  · subst k1
    rw [if_pos rfl]
    by_cases h1 : 1 ≤ L.length <;> by_cases h2 : L.length ≤ 16 <;> try omega
    all_goals by_cases r0 : r = 0 <;> by_cases c0 : c = 0
    all_goals (sym => simp [Qb,Qc,Qd,Qe,Qf,Qg,Qi,Qj,Ql,Qm,Qn,Qp,Qq,Qr,Qt,Qu,Qw,Q4,Xa,Xd,Xp,Xy,X8,X9,Yb,Yd,Yh,Yj,Yr,Yt,Yv,Y1,Y5,Y7,Y9,Za,Zb,Zc,Ze,Zg,Zh,Zi,Zj,Zk,Zl,Zm,Zn,Zr,Zs,Zt,Zu,Zv,Zw,Zy,Z0,Z3,Ja,Jb,Jj,Jk,Jl,Jn,Jo,Jp,Jr,Jv,Jx,Ue,Uf,Ug,Ul,Wk,Hh,Hi,Hv,Hw,Nl,Nm,No,Nq,Nr,Nw,Nx,Be,Bh,q4R0.eq_1,q4R1.eq_1,q4R2.eq_1,q4R3.eq_1,q4R4.eq_1,q4R5.eq_1,q4R6.eq_1,q4R7.eq_1,q4R8.eq_1,q4R9.eq_1,q4R10.eq_1,q4R11.eq_1,c_input_may.eq_1,hS,n1,n2,h1,h2,r0,c0])
  rw [if_neg k1]
  by_cases k2 : k = 2
  · subst k2
    rw [if_pos rfl]
    by_cases r0 : r = 0
    · by_cases c0 : c = 0
      · (sym => simp [Qb,Qc,Qd,Qe,Qf,Qg,Qi,Qj,Ql,Qm,Qn,Qp,Qq,Qr,Qt,Qu,Qw,Q4,Xa,Xd,Xp,Xy,X8,X9,Yb,Yd,Yh,Yj,Yr,Yt,Yv,Y1,Y5,Y7,Y9,Za,Zb,Zc,Ze,Zg,Zh,Zi,Zj,Zk,Zl,Zm,Zn,Zr,Zs,Zt,Zu,Zv,Zw,Zy,Z0,Z3,Ja,Jb,Jj,Jk,Jl,Jn,Jo,Jp,Jr,Jv,Jx,Ue,Uf,Ug,Ul,Wk,Hh,Hi,Hv,Hw,Nl,Nm,No,Nq,Nr,Nw,Nx,Be,Bh,q4R0.eq_1,q4R1.eq_1,q4R2.eq_1,q4R3.eq_1,q4R4.eq_1,q4R5.eq_1,q4R6.eq_1,q4R7.eq_1,q4R8.eq_1,q4R9.eq_1,q4R10.eq_1,q4R11.eq_1,c_input_may.eq_1,hS,s0,r0,c0])
      · (sym => simp [Qb,Qc,Qd,Qe,Qf,Qg,Qi,Qj,Ql,Qm,Qn,Qp,Qq,Qr,Qt,Qu,Qw,Q4,Xa,Xd,Xp,Xy,X8,X9,Yb,Yd,Yh,Yj,Yr,Yt,Yv,Y1,Y5,Y7,Y9,Za,Zb,Zc,Ze,Zg,Zh,Zi,Zj,Zk,Zl,Zm,Zn,Zr,Zs,Zt,Zu,Zv,Zw,Zy,Z0,Z3,Ja,Jb,Jj,Jk,Jl,Jn,Jo,Jp,Jr,Jv,Jx,Ue,Uf,Ug,Ul,Wk,Hh,Hi,Hv,Hw,Nl,Nm,No,Nq,Nr,Nw,Nx,Be,Bh,q4R0.eq_1,q4R1.eq_1,q4R2.eq_1,q4R3.eq_1,q4R4.eq_1,q4R5.eq_1,q4R6.eq_1,q4R7.eq_1,q4R8.eq_1,q4R9.eq_1,q4R10.eq_1,q4R11.eq_1,c_input_may.eq_1,hS,s0,r0,c0])
    · cases hr : sideB r with
      | false => (sym => simp [Qb,Qc,Qd,Qe,Qf,Qg,Qi,Qj,Ql,Qm,Qn,Qp,Qq,Qr,Qt,Qu,Qw,Q4,Xa,Xd,Xp,Xy,X8,X9,Yb,Yd,Yh,Yj,Yr,Yt,Yv,Y1,Y5,Y7,Y9,Za,Zb,Zc,Ze,Zg,Zh,Zi,Zj,Zk,Zl,Zm,Zn,Zr,Zs,Zt,Zu,Zv,Zw,Zy,Z0,Z3,Ja,Jb,Jj,Jk,Jl,Jn,Jo,Jp,Jr,Jv,Jx,Ue,Uf,Ug,Ul,Wk,Hh,Hi,Hv,Hw,Nl,Nm,No,Nq,Nr,Nw,Nx,Be,Bh,q4R0.eq_1,q4R1.eq_1,q4R2.eq_1,q4R3.eq_1,q4R4.eq_1,q4R5.eq_1,q4R6.eq_1,q4R7.eq_1,q4R8.eq_1,q4R9.eq_1,q4R10.eq_1,q4R11.eq_1,c_input_may.eq_1,hS,r0,hr])
      | true =>
        cases hc : sideB c with
        | false => (sym => simp [Qb,Qc,Qd,Qe,Qf,Qg,Qi,Qj,Ql,Qm,Qn,Qp,Qq,Qr,Qt,Qu,Qw,Q4,Xa,Xd,Xp,Xy,X8,X9,Yb,Yd,Yh,Yj,Yr,Yt,Yv,Y1,Y5,Y7,Y9,Za,Zb,Zc,Ze,Zg,Zh,Zi,Zj,Zk,Zl,Zm,Zn,Zr,Zs,Zt,Zu,Zv,Zw,Zy,Z0,Z3,Ja,Jb,Jj,Jk,Jl,Jn,Jo,Jp,Jr,Jv,Jx,Ue,Uf,Ug,Ul,Wk,Hh,Hi,Hv,Hw,Nl,Nm,No,Nq,Nr,Nw,Nx,Be,Bh,q4R0.eq_1,q4R1.eq_1,q4R2.eq_1,q4R3.eq_1,q4R4.eq_1,q4R5.eq_1,q4R6.eq_1,q4R7.eq_1,q4R8.eq_1,q4R9.eq_1,q4R10.eq_1,q4R11.eq_1,c_input_may.eq_1,hS,r0,hr,hc])
        | true =>
          by_cases h3 : L.length = 0
          · (sym => simp [Qb,Qc,Qd,Qe,Qf,Qg,Qi,Qj,Ql,Qm,Qn,Qp,Qq,Qr,Qt,Qu,Qw,Q4,Xa,Xd,Xp,Xy,X8,X9,Yb,Yd,Yh,Yj,Yr,Yt,Yv,Y1,Y5,Y7,Y9,Za,Zb,Zc,Ze,Zg,Zh,Zi,Zj,Zk,Zl,Zm,Zn,Zr,Zs,Zt,Zu,Zv,Zw,Zy,Z0,Z3,Ja,Jb,Jj,Jk,Jl,Jn,Jo,Jp,Jr,Jv,Jx,Ue,Uf,Ug,Ul,Wk,Hh,Hi,Hv,Hw,Nl,Nm,No,Nq,Nr,Nw,Nx,Be,Bh,q4R0.eq_1,q4R1.eq_1,q4R2.eq_1,q4R3.eq_1,q4R4.eq_1,q4R5.eq_1,q4R6.eq_1,q4R7.eq_1,q4R8.eq_1,q4R9.eq_1,q4R10.eq_1,q4R11.eq_1,c_input_may.eq_1,hS,r0,hr,hc,n3,h3])
          · (sym => simp [Qb,Qc,Qd,Qe,Qf,Qg,Qi,Qj,Ql,Qm,Qn,Qp,Qq,Qr,Qt,Qu,Qw,Q4,Xa,Xd,Xp,Xy,X8,X9,Yb,Yd,Yh,Yj,Yr,Yt,Yv,Y1,Y5,Y7,Y9,Za,Zb,Zc,Ze,Zg,Zh,Zi,Zj,Zk,Zl,Zm,Zn,Zr,Zs,Zt,Zu,Zv,Zw,Zy,Z0,Z3,Ja,Jb,Jj,Jk,Jl,Jn,Jo,Jp,Jr,Jv,Jx,Ue,Uf,Ug,Ul,Wk,Hh,Hi,Hv,Hw,Nl,Nm,No,Nq,Nr,Nw,Nx,Be,Bh,q4R0.eq_1,q4R1.eq_1,q4R2.eq_1,q4R3.eq_1,q4R4.eq_1,q4R5.eq_1,q4R6.eq_1,q4R7.eq_1,q4R8.eq_1,q4R9.eq_1,q4R10.eq_1,q4R11.eq_1,c_input_may.eq_1,hS,r0,hr,hc,n3,h3])
  rw [if_neg k2]
  by_cases k3 : k = 3
  · subst k3
    rw [if_pos rfl]
    by_cases h3 : L.length = 0
    all_goals by_cases r0 : r = 0 <;> by_cases c0 : c = 0
    all_goals (sym => simp [Qb,Qc,Qd,Qe,Qf,Qg,Qi,Qj,Ql,Qm,Qn,Qp,Qq,Qr,Qt,Qu,Qw,Q4,Xa,Xd,Xp,Xy,X8,X9,Yb,Yd,Yh,Yj,Yr,Yt,Yv,Y1,Y5,Y7,Y9,Za,Zb,Zc,Ze,Zg,Zh,Zi,Zj,Zk,Zl,Zm,Zn,Zr,Zs,Zt,Zu,Zv,Zw,Zy,Z0,Z3,Ja,Jb,Jj,Jk,Jl,Jn,Jo,Jp,Jr,Jv,Jx,Ue,Uf,Ug,Ul,Wk,Hh,Hi,Hv,Hw,Nl,Nm,No,Nq,Nr,Nw,Nx,Be,Bh,q4R0.eq_1,q4R1.eq_1,q4R2.eq_1,q4R3.eq_1,q4R4.eq_1,q4R5.eq_1,q4R6.eq_1,q4R7.eq_1,q4R8.eq_1,q4R9.eq_1,q4R10.eq_1,q4R11.eq_1,c_input_may.eq_1,hS,n3,h3,r0,c0])
  rw [if_neg k3]
  by_cases k4 : k = 4
  · subst k4
    rw [if_pos rfl]
    by_cases h3 : L.length = 0
    all_goals by_cases r0 : r = 0 <;> by_cases c0 : c = 0
    all_goals (sym => simp [Qb,Qc,Qd,Qe,Qf,Qg,Qi,Qj,Ql,Qm,Qn,Qp,Qq,Qr,Qt,Qu,Qw,Q4,Xa,Xd,Xp,Xy,X8,X9,Yb,Yd,Yh,Yj,Yr,Yt,Yv,Y1,Y5,Y7,Y9,Za,Zb,Zc,Ze,Zg,Zh,Zi,Zj,Zk,Zl,Zm,Zn,Zr,Zs,Zt,Zu,Zv,Zw,Zy,Z0,Z3,Ja,Jb,Jj,Jk,Jl,Jn,Jo,Jp,Jr,Jv,Jx,Ue,Uf,Ug,Ul,Wk,Hh,Hi,Hv,Hw,Nl,Nm,No,Nq,Nr,Nw,Nx,Be,Bh,q4R0.eq_1,q4R1.eq_1,q4R2.eq_1,q4R3.eq_1,q4R4.eq_1,q4R5.eq_1,q4R6.eq_1,q4R7.eq_1,q4R8.eq_1,q4R9.eq_1,q4R10.eq_1,q4R11.eq_1,c_input_may.eq_1,hS,n3,h3,r0,c0])
  rw [if_neg k4]
  by_cases r0 : r = 0 <;> by_cases c0 : c = 0
  all_goals (sym => simp [Qb,Qc,Qd,Qe,Qf,Qg,Qi,Qj,Ql,Qm,Qn,Qp,Qq,Qr,Qt,Qu,Qw,Q4,Xa,Xd,Xp,Xy,X8,X9,Yb,Yd,Yh,Yj,Yr,Yt,Yv,Y1,Y5,Y7,Y9,Za,Zb,Zc,Ze,Zg,Zh,Zi,Zj,Zk,Zl,Zm,Zn,Zr,Zs,Zt,Zu,Zv,Zw,Zy,Z0,Z3,Ja,Jb,Jj,Jk,Jl,Jn,Jo,Jp,Jr,Jv,Jx,Ue,Uf,Ug,Ul,Wk,Hh,Hi,Hv,Hw,Nl,Nm,No,Nq,Nr,Nw,Nx,Be,Bh,q4R0.eq_1,q4R1.eq_1,q4R2.eq_1,q4R3.eq_1,q4R4.eq_1,q4R5.eq_1,q4R6.eq_1,q4R7.eq_1,q4R8.eq_1,q4R9.eq_1,q4R10.eq_1,q4R11.eq_1,c_input_may.eq_1,hS,k1,k2,k3,k4,r0,c0])
theorem iMay_true (d : Dd) (h : deedD d = true) (e0 e1 e2 e3 e4 e5 e6 : List (List AV)) : aR G FT n_input_May [.agg [.int .i64 0, .own 7 0 0 1 1]] [⟨33, 0, true, e0⟩, ⟨4, 0, true, e1⟩, ⟨33, 0, true, e2⟩, ⟨2, 0, true, e3⟩, ⟨1, 0, true, e4⟩, ⟨1, 0, true, e5⟩, ⟨4, 0, true, e6⟩, ⟨4, 0, true, [dC d]⟩] =
    some (.bool true, [⟨33, 0, true, e0⟩, ⟨4, 0, true, e1⟩, ⟨33, 0, true, e2⟩, ⟨2, 0, true, e3⟩, ⟨1, 0, true, e4⟩, ⟨1, 0, true, e5⟩, ⟨4, 0, true, e6⟩, ⟨4, 0, true, [dC d]⟩, ⟨2, 0, false, [[.int .i64 0, .own 7 0 0 1 1]]⟩]) := by
  have hD := imay_P G d.1 (byt d.2.1) d.2.2.2.2 d.2.2.1 d.2.2.2.1
  rw [byt_len] at hD
  have hd : deedB d.1 d.2.1.length d.2.2.1 d.2.2.2.1 = true := h
  have hw1 : IntKind.i64.wrap 1 = 1 := by decide
  have hw2 : IntKind.i64.wrap 1073741823 = 1073741823 := by decide
  unfold dC
  rw [run_input_May]
  (sym => simp [Qa,Qb,Qc,Qd,Qe,Qf,Qg,Qi,Qj,Ql,Qm,Qn,Qo,Qp,Qq,Qr,Qt,Qu,Qw,Q4,Xa,Xd,Xp,Xs,Xy,X5,X6,Ya,Yc,Yd,Yg,Yj,Yr,Yt,Yu,Yv,Yx,Y1,Y5,Y7,Y9,Za,Zb,Zc,Ze,Zg,Zh,Zi,Zj,Zk,Zl,Zm,Zn,Zo,Zq,Zr,Zs,Zt,Zu,Zv,Zw,Zx,Zy,Z0,Z3,Jb,Jj,Jk,Jm,Jn,Jo,Jq,Jr,Js,Ju,Jv,Jx,Ue,Uf,Ug,Ul,Uq,Us,Uw,Ux,U4,U5,U6,Va,Vb,Vi,Vj,Vk,Vl,Vm,Vn,Vo,Vp,Vq,Vr,Vt,Vv,Vw,Vy,Vz,V0,V3,V6,V9,Wd,We,Hh,Hi,Ho,Hp,Hq,Hs,Hu,Hv,Hw,H0,H1,Nl,Nm,No,Nq,Nw,Nx,Nz,Be,Bh,Bi,q2R0.eq_1,q2R1.eq_1,q2R2.eq_1,q2R3.eq_1,c_input_May.eq_1,run_input_May_1,q3R0.eq_1,q3R1.eq_1,c_input_May_1.eq_1,run_slices_ContainsFunc_Deed,q62R0.eq_1,q62R1.eq_1,c_slices_ContainsFunc_Deed.eq_1,run_slices_IndexFunc_Deed,q74R0.eq_1,q74R1.eq_1,q74R2.eq_1,q74R3.eq_1,q74R4.eq_1,q74R5.eq_1,q74R6.eq_1,q74R7.eq_1,c_slices_IndexFunc_Deed.eq_1,c_slices_IndexFunc_Deed_L0.eq_1,hD,hw2,hd,hw1,lp_slices_IndexFunc_Deed_0.eq_1,y_loop])
theorem iMay_false (d : Dd) (h : deedD d = false) (e0 e1 e2 e3 e4 e5 e6 : List (List AV)) : aR G FT n_input_May [.agg [.int .i64 0, .own 7 0 0 1 1]] [⟨33, 0, true, e0⟩, ⟨4, 0, true, e1⟩, ⟨33, 0, true, e2⟩, ⟨2, 0, true, e3⟩, ⟨1, 0, true, e4⟩, ⟨1, 0, true, e5⟩, ⟨4, 0, true, e6⟩, ⟨4, 0, true, [dC d]⟩] =
    some (.bool false, [⟨33, 0, true, e0⟩, ⟨4, 0, true, e1⟩, ⟨33, 0, true, e2⟩, ⟨2, 0, true, e3⟩, ⟨1, 0, true, e4⟩, ⟨1, 0, true, e5⟩, ⟨4, 0, true, e6⟩, ⟨4, 0, true, [dC d]⟩, ⟨2, 0, false, [[.int .i64 0, .own 7 0 0 1 1]]⟩, ⟨4, 0, true, [dC d]⟩]) := by
  have hD := imay_P G d.1 (byt d.2.1) d.2.2.2.2 d.2.2.1 d.2.2.2.1
  rw [byt_len] at hD
  have hd : deedB d.1 d.2.1.length d.2.2.1 d.2.2.2.1 = false := h
  have hw2 : IntKind.i64.wrap 1073741823 = 1073741823 := by decide
  unfold dC
  rw [run_input_May]
  (sym => simp [Qb,Qc,Qd,Qe,Qf,Qg,Qi,Qj,Ql,Qm,Qn,Qo,Qp,Qq,Qr,Qt,Qu,Qw,Q4,Xa,Xd,Xp,Xs,Xy,X6,Ya,Yc,Yd,Yg,Yj,Yr,Yt,Yu,Yv,Yx,Y1,Y5,Y7,Y9,Za,Zb,Zc,Ze,Zg,Zh,Zi,Zj,Zk,Zl,Zm,Zn,Zo,Zq,Zr,Zs,Zt,Zu,Zv,Zw,Zx,Zy,Z0,Z3,Jb,Jj,Jk,Jl,Jn,Jp,Jr,Jt,Jv,Jx,Ue,Uf,Ug,Ul,Uq,Us,Uw,Ux,U4,U5,U6,Va,Vb,Vi,Vj,Vk,Vl,Vm,Vn,Vo,Vp,Vq,Vr,Vt,Vv,Vw,Vy,Vz,V0,V3,V6,V9,Wd,We,Hh,Hi,Ho,Hq,Hs,Hu,Hv,Hw,H0,H1,Nl,Nm,No,Nq,Nw,Nx,Nz,Be,Bh,Bi,q2R0.eq_1,q2R1.eq_1,q2R2.eq_1,q2R3.eq_1,c_input_May.eq_1,run_input_May_1,q3R0.eq_1,q3R1.eq_1,c_input_May_1.eq_1,run_slices_ContainsFunc_Deed,q62R0.eq_1,q62R1.eq_1,c_slices_ContainsFunc_Deed.eq_1,run_slices_IndexFunc_Deed,q74R0.eq_1,q74R1.eq_1,q74R2.eq_1,q74R3.eq_1,q74R4.eq_1,q74R5.eq_1,q74R6.eq_1,q74R7.eq_1,c_slices_IndexFunc_Deed.eq_1,c_slices_IndexFunc_Deed_L0.eq_1,hD,hw2,hd,lp_slices_IndexFunc_Deed_0.eq_1,y_loop])
/-- Windows with another one. -/
def setW (w : Nat → Int × Int) (j : Nat) (r c : Int) : Nat → Int × Int := fun n => if n = j then (r, c) else w n
theorem setW_eq (w : Nat → Int × Int) {j : Nat} (h : j < 9) (r c : Int) : (cellsW w).take (j * 2) ++ [.int .i64 r, .int .i64 c] ++ (cellsW w).drop (j * 2 + 2) = cellsW (setW w j r c) := by
  rcases nine h with rfl | rfl | rfl | rfl | rfl | rfl | rfl | rfl | rfl <;> rfl
theorem sset_P (w : Nat → Int × Int) (j : Nat) (h1 : 1 ≤ j) (h8 : j ≤ 8) (r c : Int) (hm : mayW w = true) (hr : sideB r = true) (hc : sideB c = true) :
    aP G FT n_size_Set [.agg (cellsW w), .int .i64 j, .int .i64 r, .int .i64 c] = some (.tup [.agg (cellsW (setW w j r c)), .int .i64 0]) := by
  have hM := sMay_P G w
  have hS := side_P G
  have hN := member_P G j
  have hj : memB (j : Int) = true := by rw [memB_iff]; omega
  have cl := cW_len w
  have cs := cW_st w
  have cv := cW_v w
  have ct : List.take 18 (cellsW w) = cellsW w := rfl
  have cd : List.drop 18 (cellsW w) = [] := rfl
  have j9 : (j : Int) < 9 := by omega
  have q1 : j * 2 + 2 ≤ 18 := by omega
  have k1 := setW_eq w (j := j) (by omega) r c
  have dl := cW_len (setW w j r c)
  have ds := cW_st (setW w j r c)
  have dt : List.take 18 (cellsW (setW w j r c)) = cellsW (setW w j r c) := rfl
  have df : ∀ h, afreezeL h (cellsW (setW w j r c)) = some (cellsW (setW w j r c)) := fun h => by simp [cellsW, afreezeL, afreeze]
  generalize cellsW (setW w j r c) = C2 at *
  generalize cellsW w = C1 at *
  unfold aP
  rw [run_size_Set]
  (sym => simp [Qb,Qc,Qd,Qe,Qf,Qg,Qi,Qj,Qm,Qn,Qo,Qr,Qt,Qu,Qv,Qw,Qx,Qy,Q1,Q4,Q5,Xd,Xt,Yj,Yk,Yr,Yu,Yz,Y1,Y6,Y7,Y8,Y9,Za,Zb,Zc,Zd,Ze,Zg,Zh,Zi,Zj,Zk,Zl,Zm,Zn,Zo,Zr,Zs,Zt,Zu,Zv,Zw,Zy,Z0,Z1,Z3,Jb,Jj,Jk,Jr,Jv,Jx,J1,J2,K8,K9,Ue,Uf,Ug,V3,V6,Wd,We,Wh,Wi,Wj,Wp,Wq,Hh,Hi,Hk,Hl,Ho,Hp,Hr,Hs,Ht,Hu,Hv,Hw,H8,Ni,Nk,No,Nw,Nx,Nz,N0,Be,Bh,q55R0.eq_1,q55R1.eq_1,q55R2.eq_1,q55R3.eq_1,q55R4.eq_1,c_size_Set.eq_1,hM,hS,hN,hm,hr,hc,hj,cl,cs,cv,ct,cd,j9,q1,k1,dl,ds,dt,df])
end Go.Proofs.Ythcnhibjddomdaa
