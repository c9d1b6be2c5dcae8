/- Sessions: great, role. Conditions: as each statement says. -/
import Derived.Test.YthcnhibjddomdaaSea
set_option linter.unusedVariables false
set_option linter.unusedSimpArgs false
set_option linter.unusedSectionVars false
set_option maxRecDepth 20000
set_option maxHeartbeats 8000000
namespace Go.Proofs.Ythcnhibjddomdaa
open Go
variable (G : Nat → Option (List AV))
theorem role30_loop (s : Ses) (id : Int) (hl : s.mem.length ≤ 1000) : ∀ (m i : Nat), i + m = s.mem.length →
    aE G FT 0 lp_law30_role_0 ⟨[(1, .int .i64 id), (2, .ptr 0 0 0 0), (5, .int .i64 i)], [⟨33, 0, true, [sC s]⟩]⟩ = if ((s.mem.drop i).any fun x => decide (x.1 = id)) = true then some (.ret, ⟨[(4, .int .i64 (roleOf (s.mem.drop i) id))], [⟨33, 0, true, [sC s]⟩]⟩) else some (.exit 0, ⟨[(1, .int .i64 id), (2, .ptr 0 0 0 0), (5, .int .i64 s.mem.length), (10, .bool false)], [⟨33, 0, true, [sC s]⟩]⟩) := by
  have b0 := sC_0 s
  have hln := mbs_len s.mem
  intro m
  induction m with
  | zero =>
    intro i hi
    rw [lp_law30_role_0, y_loop]
    have e : s.mem.drop i = [] := List.drop_eq_nil_of_le (by omega)
    obtain rfl : i = s.mem.length := by omega
    have e0 : decide ((s.mem.length : Int) < s.mem.length) = false := by simp
    rw [e, List.any_nil, if_neg (by simp)]
    (sym => simp [Qa,Qb,Qc,Qd,Qe,Qi,Qj,Qr,Qt,Q4,Xa,Xp,Xs,Xy,X5,X8,Ya,Yh,Yr,Ys,Yt,Yv,Yw,Yy,Y9,Za,Zb,Zc,Ze,Zg,Zh,Zk,Zl,Zm,Zn,Zt,Zv,Zw,Zx,Zy,Zz,Z0,Z3,Jj,Jk,Jl,Jm,Jn,Jo,Jp,Jr,Js,Jt,Ju,Jv,Ut,Ux,U4,U5,U7,Vb,Vk,Vm,Vo,Vp,Vq,Vr,Vs,Vt,Vu,Vv,Vw,Vx,Vy,Vz,V0,Hh,Hp,Hr,Hs,Hv,Hw,H1,H5,H6,Ni,Nk,Nl,Nm,No,Nx,Be,q13R0.eq_1,q13R1.eq_1,q13R2.eq_1,q13R4.eq_1,q13R5.eq_1,q13R3.eq_1,q13R6.eq_1,c_law30_role.eq_1,c_law30_role_L0.eq_1,e0,hln,b0])
  | succ m ih =>
    intro i hi
    have hlt : i < s.mem.length := by omega
    have hlt' : (i : Int) < s.mem.length := by omega
    have hw := wrap_nat (n := i) (by omega)
    have hg := mbs_at hlt
    have e : s.mem.drop i = s.mem[i] :: s.mem.drop (i + 1) := List.drop_eq_getElem_cons hlt
    have ih := ih (i + 1) (by omega)
    rw [lp_law30_role_0] at ih
    rw [e, List.any_cons, roleOf, lp_law30_role_0, y_loop]
    by_cases hx : s.mem[i].1 = id
    · rw [if_pos (by simp [hx]), if_pos hx]
      (sym => simp [Qa,Qb,Qc,Qd,Qe,Qi,Qj,Qr,Qt,Q4,Xa,Xp,Xs,Xy,X5,X8,Ya,Yh,Yr,Ys,Yt,Yv,Yw,Yy,Y9,Za,Zb,Zc,Ze,Zg,Zh,Zk,Zl,Zm,Zn,Zt,Zv,Zw,Zx,Zy,Zz,Z0,Z3,Jj,Jk,Jl,Jm,Jn,Jo,Jp,Jr,Js,Jt,Ju,Jv,Ut,Ux,U4,U5,U7,Vb,Vk,Vm,Vo,Vp,Vq,Vr,Vs,Vt,Vu,Vv,Vw,Vx,Vy,Vz,V0,Hh,Hp,Hr,Hs,Hv,Hw,H1,H5,H6,Ni,Nk,Nl,Nm,No,Nx,Be,q13R0.eq_1,q13R1.eq_1,q13R2.eq_1,q13R4.eq_1,q13R5.eq_1,q13R3.eq_1,q13R6.eq_1,c_law30_role.eq_1,c_law30_role_L0.eq_1,hlt',hg,hln,hx,b0])
    · have hd : decide (s.mem[i].1 = id) = false := by simp [hx]
      rw [hd, Bool.false_or, if_neg hx, ← ih]
      (sym => simp [Qa,Qb,Qc,Qd,Qe,Qi,Qj,Qr,Qt,Q4,Xa,Xp,Xs,Xy,X5,X8,Ya,Yh,Yr,Ys,Yt,Yv,Yw,Yy,Y9,Za,Zb,Zc,Ze,Zg,Zh,Zk,Zl,Zm,Zn,Zt,Zv,Zw,Zx,Zy,Zz,Z0,Z3,Jj,Jk,Jl,Jm,Jn,Jo,Jp,Jr,Js,Jt,Ju,Jv,Ut,Ux,U4,U5,U7,Vb,Vk,Vm,Vo,Vp,Vq,Vr,Vs,Vt,Vu,Vv,Vw,Vx,Vy,Vz,V0,Hh,Hp,Hr,Hs,Hv,Hw,H1,H5,H6,Ni,Nk,Nl,Nm,No,Nx,Be,q13R0.eq_1,q13R1.eq_1,q13R2.eq_1,q13R4.eq_1,q13R5.eq_1,q13R3.eq_1,q13R6.eq_1,c_law30_role.eq_1,c_law30_role_L0.eq_1,hlt',hg,hln,hx,hw,b0])
theorem role_none {l : List (Int × Int)} {id : Int} (h : (l.any fun x => decide (x.1 = id)) = false) : roleOf l id = 0 := by
  induction l with
  | nil => rfl
  | cons m t ih =>
    rw [List.any_cons, Bool.or_eq_false_iff, decide_eq_false_iff_not] at h
    rw [roleOf, if_neg h.1, ih h.2]
theorem role30_P (s : Ses) (id : Int) (hl : s.mem.length ≤ 1000) : aP G FT n_law30_role [.agg (sC s), .int .i64 id] = some (.int .i64 (roleOf s.mem id)) := by
  have key := role30_loop G s id hl s.mem.length 0 (by omega)
  simp only [List.drop_zero, Int.natCast_zero] at key
  have b4 := sC_len s
  have b5 := sC_st s
  unfold aP
  rw [run_law30_role]
  cases hg : s.mem.any fun x => decide (x.1 = id) with
  | true => rw [hg, if_pos rfl] at key; (sym => simp [Qb,Qd,Qe,Qi,Qj,Qr,Qw,Yj,Y1,Y5,Y7,Y9,Za,Zb,Zc,Ze,Zg,Zh,Zi,Zj,Zk,Zl,Zm,Zr,Zs,Zt,Zu,Zv,Zw,Jj,Jk,Jl,Jn,Jp,Jq,Jv,Jx,Wj,Hv,Be,q13R0.eq_1,q13R1.eq_1,q13R2.eq_1,q13R4.eq_1,q13R5.eq_1,q13R3.eq_1,q13R6.eq_1,c_law30_role.eq_1,b4,b5,key])
  | false => rw [hg, if_neg (by simp)] at key; rw [role_none hg]; (sym => simp [Qb,Qd,Qe,Qi,Qj,Qr,Qw,Yj,Y1,Y5,Y7,Y9,Za,Zb,Zc,Ze,Zg,Zh,Zi,Zj,Zk,Zl,Zm,Zr,Zs,Zt,Zu,Zv,Zw,Jj,Jk,Jl,Jn,Jp,Jq,Jv,Jx,Wj,Hv,Be,q13R0.eq_1,q13R1.eq_1,q13R2.eq_1,q13R4.eq_1,q13R5.eq_1,q13R3.eq_1,q13R6.eq_1,c_law30_role.eq_1,b4,b5,key])
end Go.Proofs.Ythcnhibjddomdaa
