/- Sessions: great, role. Conditions: as each statement says. -/
import Derived.Test.YthcnhibjddomdaaGreatSea
set_option linter.unusedVariables false
set_option linter.unusedSimpArgs false
set_option linter.unusedSectionVars false
set_option maxRecDepth 20000
set_option maxHeartbeats 8000000
namespace Go.Proofs.YthcnhibjddomdaaGreat
open Go
variable (G : Nat → Option (List AV))
def greatS (s : Ses) : Bool := decide (50 < s.mem.length) || decide (50 < s.tq.length) || decide (80 < s.q.length) || s.q.any fun x => decide (100 < x.2.2.1.length)
theorem great30_loop (s : Ses) (hl : s.q.length ≤ 80) : ∀ (m i : Nat), i + m = s.q.length →
    aE G FT 0 lp_law30_great_0 ⟨[(1, .ptr 0 0 0 0), (3, .int .i64 i)], [⟨33, 0, true, [sC s]⟩]⟩ = if ((s.q.drop i).any fun x => decide (100 < x.2.2.1.length)) = true then some (.ret, ⟨[(2, .bool true)], [⟨33, 0, true, [sC s]⟩]⟩) else some (.exit 0, ⟨[(1, .ptr 0 0 0 0), (3, .int .i64 s.q.length), (25, .bool false)], [⟨33, 0, true, [sC s]⟩]⟩) := by
  have b3 := sC_3 s
  have hln := pcs_len s.q
  intro m
  induction m with
  | zero =>
    intro i hi
    rw [lp_law30_great_0, y_loop]
    have e : s.q.drop i = [] := List.drop_eq_nil_of_le (by omega)
    obtain rfl : i = s.q.length := by omega
    have e0 : decide ((s.q.length : Int) < s.q.length) = false := by simp
    rw [e, List.any_nil, if_neg (by simp)]
    (sym => simp [Qa,Qb,Qc,Qd,Qe,Qi,Qj,Qr,Qt,Q4,Xa,Xp,Xs,Xy,X5,Ya,Yc,Yh,Yr,Ys,Yt,Yv,Yw,Yy,Y9,Za,Zb,Zc,Ze,Zg,Zh,Zk,Zl,Zm,Zn,Zt,Zv,Zw,Zx,Zy,Zz,Z0,Z3,Jj,Jk,Jl,Jm,Jn,Jo,Jp,Jr,Js,Jt,Ju,Jv,Ut,Ux,U4,U5,U7,Vb,Vk,Vm,Vo,Vp,Vq,Vr,Vs,Vt,Vu,Vv,Vw,Vx,Vy,Vz,V0,Hh,Hp,Hr,Hs,Hv,Hw,H1,H5,H6,Ni,Nk,Nl,Nm,No,Nx,Be,q8R0.eq_1,q8R1.eq_1,q8R2.eq_1,q8R3.eq_1,q8R4.eq_1,q8R6.eq_1,q8R7.eq_1,q8R5.eq_1,q8R8.eq_1,c_law30_great.eq_1,c_law30_great_L0.eq_1,e0,hln,b3])
  | succ m ih =>
    intro i hi
    have hlt : i < s.q.length := by omega
    have hlt' : (i : Int) < s.q.length := by omega
    have hw := wrap_nat (n := i) (by omega)
    have hg := pcs_at hlt
    have hbl := byt_len s.q[i].2.2.1
    have e : s.q.drop i = s.q[i] :: s.q.drop (i + 1) := List.drop_eq_getElem_cons hlt
    have ih := ih (i + 1) (by omega)
    rw [lp_law30_great_0] at ih
    rw [e, List.any_cons, lp_law30_great_0, y_loop]
    by_cases hx : 100 < s.q[i].2.2.1.length
    · have hx' : (100 : Int) < s.q[i].2.2.1.length := by omega
      rw [if_pos (by simp [hx])]
      (sym => simp [Qa,Qb,Qc,Qd,Qe,Qi,Qj,Qr,Qt,Q4,Xa,Xp,Xs,Xy,X5,Ya,Yc,Yh,Yr,Ys,Yt,Yv,Yw,Yy,Y9,Za,Zb,Zc,Ze,Zg,Zh,Zk,Zl,Zm,Zn,Zt,Zv,Zw,Zx,Zy,Zz,Z0,Z3,Jj,Jk,Jl,Jm,Jn,Jo,Jp,Jr,Js,Jt,Ju,Jv,Ut,Ux,U4,U5,U7,Vb,Vk,Vm,Vo,Vp,Vq,Vr,Vs,Vt,Vu,Vv,Vw,Vx,Vy,Vz,V0,Hh,Hp,Hr,Hs,Hv,Hw,H1,H5,H6,Ni,Nk,Nl,Nm,No,Nx,Be,q8R0.eq_1,q8R1.eq_1,q8R2.eq_1,q8R3.eq_1,q8R4.eq_1,q8R6.eq_1,q8R7.eq_1,q8R5.eq_1,q8R8.eq_1,c_law30_great.eq_1,c_law30_great_L0.eq_1,hlt',hg,hln,hbl,hx',b3])
    · have hx' : ¬ (100 : Int) < s.q[i].2.2.1.length := by omega
      simp only [hx, decide_false, Bool.false_or]
      rw [← ih]
      (sym => simp [Qa,Qb,Qc,Qd,Qe,Qi,Qj,Qr,Qt,Q4,Xa,Xp,Xs,Xy,X5,Ya,Yc,Yh,Yr,Ys,Yt,Yv,Yw,Yy,Y9,Za,Zb,Zc,Ze,Zg,Zh,Zk,Zl,Zm,Zn,Zt,Zv,Zw,Zx,Zy,Zz,Z0,Z3,Jj,Jk,Jl,Jm,Jn,Jo,Jp,Jr,Js,Jt,Ju,Jv,Ut,Ux,U4,U5,U7,Vb,Vk,Vm,Vo,Vp,Vq,Vr,Vs,Vt,Vu,Vv,Vw,Vx,Vy,Vz,V0,Hh,Hp,Hr,Hs,Hv,Hw,H1,H5,H6,Ni,Nk,Nl,Nm,No,Nx,Be,q8R0.eq_1,q8R1.eq_1,q8R2.eq_1,q8R3.eq_1,q8R4.eq_1,q8R6.eq_1,q8R7.eq_1,q8R5.eq_1,q8R8.eq_1,c_law30_great.eq_1,c_law30_great_L0.eq_1,hlt',hg,hln,hbl,hx',hw,b3])
theorem great30_P (s : Ses) : aP G FT n_law30_great [.agg (sC s)] = some (.bool (greatS s)) := by
  have b0 := sC_0 s
  have b2 := sC_2 s
  have b3 := sC_3 s
  have b4 := sC_len s
  have b5 := sC_st s
  have l1 := mbs_len s.mem
  have l2 := ints_len s.tq
  have l3 := pcs_len s.q
  have n1 : (50 : Int) < s.mem.length ↔ 50 < s.mem.length := by omega
  have n2 : (50 : Int) < s.tq.length ↔ 50 < s.tq.length := by omega
  have n3 : (80 : Int) < s.q.length ↔ 80 < s.q.length := by omega
  unfold aP greatS
  rw [run_law30_great]
  by_cases h1 : 50 < s.mem.length
  · rw [decide_eq_true h1, Bool.true_or, Bool.true_or, Bool.true_or]
    (sym => simp [Qb,Qc,Qd,Qe,Qf,Qg,Qi,Qj,Qr,Qt,Qu,Qw,Q4,Xa,Xp,Xy,Yc,Yh,Yj,Yr,Yt,Yv,Y1,Y5,Y7,Y9,Za,Zb,Zc,Ze,Zg,Zh,Zi,Zj,Zk,Zl,Zm,Zr,Zs,Zt,Zu,Zv,Zw,Zy,Z0,Z3,Jb,Jj,Jk,Jl,Jn,Jp,Jq,Jr,Jv,Jx,Wk,Hh,Hv,Nl,Nm,Nw,Nx,Be,q8R0.eq_1,q8R1.eq_1,q8R2.eq_1,q8R3.eq_1,q8R4.eq_1,q8R6.eq_1,q8R7.eq_1,q8R5.eq_1,q8R8.eq_1,c_law30_great.eq_1,b0,b2,b3,b4,b5,l1,l2,l3,n1,n2,n3,h1])
  by_cases h2 : 50 < s.tq.length
  · rw [decide_eq_true h2, Bool.or_true, Bool.true_or, Bool.true_or]
    (sym => simp [Qb,Qc,Qd,Qe,Qf,Qg,Qi,Qj,Qr,Qt,Qu,Qw,Q4,Xa,Xp,Xy,Yc,Yh,Yj,Yr,Yt,Yv,Y1,Y5,Y7,Y9,Za,Zb,Zc,Ze,Zg,Zh,Zi,Zj,Zk,Zl,Zm,Zr,Zs,Zt,Zu,Zv,Zw,Zy,Z0,Z3,Jb,Jj,Jk,Jl,Jn,Jp,Jq,Jr,Jv,Jx,Wk,Hh,Hv,Nl,Nm,Nw,Nx,Be,q8R0.eq_1,q8R1.eq_1,q8R2.eq_1,q8R3.eq_1,q8R4.eq_1,q8R6.eq_1,q8R7.eq_1,q8R5.eq_1,q8R8.eq_1,c_law30_great.eq_1,b0,b2,b3,b4,b5,l1,l2,l3,n1,n2,n3,h1,h2])
  by_cases h3 : 80 < s.q.length
  · rw [decide_eq_true h3, Bool.or_true, Bool.true_or]
    (sym => simp [Qb,Qc,Qd,Qe,Qf,Qg,Qi,Qj,Qr,Qt,Qu,Qw,Q4,Xa,Xp,Xy,Yc,Yh,Yj,Yr,Yt,Yv,Y1,Y5,Y7,Y9,Za,Zb,Zc,Ze,Zg,Zh,Zi,Zj,Zk,Zl,Zm,Zr,Zs,Zt,Zu,Zv,Zw,Zy,Z0,Z3,Jb,Jj,Jk,Jl,Jn,Jp,Jq,Jr,Jv,Jx,Wk,Hh,Hv,Nl,Nm,Nw,Nx,Be,q8R0.eq_1,q8R1.eq_1,q8R2.eq_1,q8R3.eq_1,q8R4.eq_1,q8R6.eq_1,q8R7.eq_1,q8R5.eq_1,q8R8.eq_1,c_law30_great.eq_1,b0,b2,b3,b4,b5,l1,l2,l3,n1,n2,n3,h1,h2,h3])
  have key := great30_loop G s (by omega) s.q.length 0 (by omega)
  simp only [List.drop_zero, Int.natCast_zero] at key
  rw [decide_eq_false h1, decide_eq_false h2, decide_eq_false h3, Bool.false_or, Bool.false_or, Bool.false_or]
  cases hg : s.q.any fun x => decide (100 < x.2.2.1.length) with
  | true => rw [hg, if_pos rfl] at key; (sym => simp [Qb,Qc,Qd,Qe,Qf,Qg,Qi,Qj,Qr,Qt,Qu,Qw,Q4,Xa,Xp,Xy,Yc,Yh,Yj,Yr,Yt,Yv,Y1,Y5,Y7,Y9,Za,Zb,Zc,Ze,Zg,Zh,Zi,Zj,Zk,Zl,Zm,Zr,Zs,Zt,Zu,Zv,Zw,Zy,Z0,Z3,Jb,Jj,Jk,Jl,Jn,Jp,Jq,Jr,Jv,Jx,Wk,Hh,Hv,Nl,Nm,Nw,Nx,Be,q8R0.eq_1,q8R1.eq_1,q8R2.eq_1,q8R3.eq_1,q8R4.eq_1,q8R6.eq_1,q8R7.eq_1,q8R5.eq_1,q8R8.eq_1,c_law30_great.eq_1,b0,b2,b3,b4,b5,l1,l2,l3,n1,n2,n3,h1,h2,h3,key])
  | false => rw [hg, if_neg (by simp)] at key; (sym => simp [Qb,Qc,Qd,Qe,Qf,Qg,Qi,Qj,Qr,Qt,Qu,Qw,Q4,Xa,Xp,Xy,Yc,Yh,Yj,Yr,Yt,Yv,Y1,Y5,Y7,Y9,Za,Zb,Zc,Ze,Zg,Zh,Zi,Zj,Zk,Zl,Zm,Zr,Zs,Zt,Zu,Zv,Zw,Zy,Z0,Z3,Jb,Jj,Jk,Jl,Jn,Jp,Jq,Jr,Jv,Jx,Wk,Hh,Hv,Nl,Nm,Nw,Nx,Be,q8R0.eq_1,q8R1.eq_1,q8R2.eq_1,q8R3.eq_1,q8R4.eq_1,q8R6.eq_1,q8R7.eq_1,q8R5.eq_1,q8R8.eq_1,c_law30_great.eq_1,b0,b2,b3,b4,b5,l1,l2,l3,n1,n2,n3,h1,h2,h3,key])
theorem great30_ok {s : Ses} (h : greatS s = false) : s.mem.length ≤ 50 ∧ s.tq.length ≤ 50 ∧ s.q.length ≤ 80 ∧ okS s := by
  simp only [greatS, Bool.or_eq_false_iff, decide_eq_false_iff_not, List.any_eq_false, decide_eq_true_eq] at h
  obtain ⟨⟨⟨h1, h2⟩, h3⟩, h4⟩ := h
  exact ⟨by omega, by omega, by omega, by omega, by omega, by omega, fun x hx => by have := h4 x hx; omega⟩
end Go.Proofs.YthcnhibjddomdaaGreat
