/- SessionRights: bytes, least. Conditions: as each statement says. -/
import Derived.Test.YthcnhibjddomdaaSej
import Derived.Test.YthcnhibjddomdaaSeo
import Derived.Test.YthcnhibjddomdaaSei
set_option linter.unusedVariables false
set_option linter.unusedSimpArgs false
set_option linter.unusedSectionVars false
set_option maxRecDepth 20000
set_option maxHeartbeats 8000000
namespace Go.Proofs.Ythcnhibjddomdaa
open Go
variable (G : Nat → Option (List AV))
theorem sizeQ_take_le (q : List Pc) (i : Nat) : sizeQ (q.take i) ≤ sizeQ q := by have := sizeQ_split q i; omega
theorem bytes30_loop (q : List Pc) (b f : Bool) (hl : q.length ≤ 1000) (hz : sizeQ q ≤ 1000000) : ∀ (m i : Nat), i + m = q.length →
    aE G FT 0 lp_law30_bytes_0 ⟨[(0, .data b 3 (pcs q) f), (3, .int .i64 (sizeQ (q.take i) : Nat)), (4, .int .i64 i)], []⟩ =
      some (.exit 0, ⟨[(0, .data b 3 (pcs q) f), (3, .int .i64 (sizeQ q : Nat)), (4, .int .i64 q.length), (8, .bool false)], []⟩) := by
  have hln := pcs_len q
  intro m
  induction m with
  | zero =>
    intro i hi
    rw [lp_law30_bytes_0, y_loop]
    obtain rfl : i = q.length := by omega
    have e0 : decide ((q.length : Int) < q.length) = false := by simp
    rw [List.take_length]
    (sym => simp [Qa,Qc,Qd,Qe,Qi,Qj,Qr,Qt,Q4,Xa,Xp,Xs,Xy,X5,Ya,Yh,Ys,Yt,Yw,Yy,Y9,Za,Zb,Zc,Ze,Zg,Zh,Zk,Zl,Zt,Zv,Zw,Z3,Jj,Jk,Jm,Jn,Jo,Jr,Js,Ju,Jv,Ux,U0,U4,U5,Vb,Ve,Vo,Vq,Vr,Vt,Vv,Vw,Vy,Vz,V0,Hh,Hq,Hr,Hs,Hw,H1,Ni,Nk,Nl,No,Be,q9R0.eq_1,q9R1.eq_1,q9R2.eq_1,q9R3.eq_1,q9R5.eq_1,q9R4.eq_1,q9R6.eq_1,c_law30_bytes.eq_1,c_law30_bytes_L0.eq_1,e0,hln])
  | succ m ih =>
    intro i hi
    have hlt : i < q.length := by omega
    have hlt' : (i : Int) < q.length := by omega
    have hw := wrap_nat (n := i) (by omega)
    have hg := pcs_at hlt
    have hbl := byt_len q[i].2.2.1
    have e : sizeQ (q.take (i + 1)) = sizeQ (q.take i) + q[i].2.2.1.length := by
      have e1 : q.take (i + 1) = q.take i ++ [q[i]] := by rw [List.take_add_one, List.getElem?_eq_getElem hlt]; rfl
      rw [e1, sizeQ_app]; simp [sizeQ]
    have hle := sizeQ_take_le q (i + 1)
    have ih := ih (i + 1) (by omega)
    rw [e] at ih hle
    have hw2 : IntKind.i64.wrap ((sizeQ (q.take i) : Int) + q[i].2.2.1.length) = ((sizeQ (q.take i) + q[i].2.2.1.length : Nat) : Int) := by rw [wrap_in _ (by omega) (by omega)]; omega
    rw [lp_law30_bytes_0] at ih
    rw [← ih, lp_law30_bytes_0, y_loop]
    (sym => simp [Qa,Qc,Qd,Qe,Qi,Qj,Qr,Qt,Q4,Xa,Xp,Xs,Xy,X5,Ya,Yh,Ys,Yt,Yw,Yy,Y9,Za,Zb,Zc,Ze,Zg,Zh,Zk,Zl,Zt,Zv,Zw,Z3,Jj,Jk,Jm,Jn,Jo,Jr,Js,Ju,Jv,Ux,U0,U4,U5,Vb,Ve,Vo,Vq,Vr,Vt,Vv,Vw,Vy,Vz,V0,Hh,Hq,Hr,Hs,Hw,H1,Ni,Nk,Nl,No,Be,q9R0.eq_1,q9R1.eq_1,q9R2.eq_1,q9R3.eq_1,q9R5.eq_1,q9R4.eq_1,q9R6.eq_1,c_law30_bytes.eq_1,c_law30_bytes_L0.eq_1,hlt',hg,hln,hbl,hw,hw2])
theorem bytes30_P (q : List Pc) (b f : Bool) (hl : q.length ≤ 1000) (hz : sizeQ q ≤ 1000000) : aP G FT n_law30_bytes [.data b 3 (pcs q) f] = some (.int .i64 (sizeQ q : Nat)) := by
  have key := bytes30_loop G q b f hl hz q.length 0 (by omega)
  have e : sizeQ (q.take 0) = 0 := rfl
  rw [e] at key
  simp only [Int.natCast_zero] at key
  unfold aP
  rw [run_law30_bytes]
  (sym => simp [Qb,Qd,Qe,Qi,Qj,Qr,Y1,Y5,Y7,Y9,Za,Zb,Zc,Ze,Zg,Zh,Zi,Zj,Zk,Zl,Zm,Zr,Zs,Zt,Zu,Zv,Zw,Jj,Jk,Jn,Jq,Jv,Jx,Wj,Be,q9R0.eq_1,q9R1.eq_1,q9R2.eq_1,q9R3.eq_1,q9R5.eq_1,q9R4.eq_1,q9R6.eq_1,c_law30_bytes.eq_1,key])
/-- Those who are there, from a number on. -/
def idsR (s : Ses) : Nat → Nat → List Int
  | 0, _ => []
  | m + 1, i => (if roleOf s.mem i ≠ 0 then [(i : Int)] else []) ++ idsR s m (i + 1)
theorem mem_idsR (s : Ses) : ∀ (m i : Nat) (x : Int), x ∈ idsR s m i ↔ (i : Int) ≤ x ∧ x < i + m ∧ roleOf s.mem x ≠ 0
  | 0, i, x => by simp [idsR]; omega
  | m + 1, i, x => by
    rw [idsR, List.mem_append, mem_idsR s m (i + 1) x]
    by_cases e : x = i
    · subst e
      by_cases hr : roleOf s.mem i = 0
      · simp [hr]
      · simp [hr]; omega
    · have h1 : ¬ x ∈ (if roleOf s.mem i ≠ 0 then [(i : Int)] else []) := by
        split <;> simp [e]
      constructor
      · rintro (h | h)
        · exact absurd h h1
        · exact ⟨by omega, by omega, h.2.2⟩
      · rintro ⟨h2, h3, h4⟩
        exact .inr ⟨by omega, by omega, h4⟩
theorem least30_loop (s : Ses) (hl : s.mem.length ≤ 1000) (hm : mayW s.w = true) : ∀ (m i : Nat) (t : Bool × Int × Int), 1 ≤ i → i + m = 9 → ∀ st, agc 0 [1, 3, 4, 5, 6] st = some ⟨[(1, .ptr 0 0 0 0), (3, .int .i64 t.2.1), (4, .int .i64 t.2.2), (5, .bool t.1), (6, .int .i64 i)], [⟨33, 0, true, [sC s]⟩]⟩ →
    aE G FT 0 lp_law30_least_0 st = some (.exit 0, ⟨[(1, .ptr 0 0 0 0), (3, .int .i64 ((idsR s m i).foldl (stepW s.w) t).2.1), (4, .int .i64 ((idsR s m i).foldl (stepW s.w) t).2.2), (5, .bool ((idsR s m i).foldl (stepW s.w) t).1), (6, .int .i64 9), (9, .bool false)], [⟨33, 0, true, [sC s]⟩]⟩) := by
  have b0 := sC_len s
  have b3 := sC_all s
  have b4 := sC_v s
  intro m
  induction m with
  | zero =>
    intro i t h1 hi st hst
    obtain rfl : i = 9 := by omega
    have e9 : ((9 : Nat) : Int) = 9 := rfl
    rw [lp_law30_least_0, y_loop, hst, idsR, List.foldl_nil]
    obtain ⟨a, b, c⟩ := t
    (sym => simp [Qa,Qc,Qd,Qe,Qf,Qg,Qi,Qj,Qm,Qn,Qo,Qr,Qt,Qu,Qv,Q4,Q5,Xa,Xp,Xt,X4,X5,X9,Yb,Yc,Ye,Yr,Yt,Yu,Yv,Yz,Y9,Za,Zb,Zc,Zd,Ze,Zg,Zh,Zk,Zl,Zm,Zn,Zo,Zt,Zv,Zw,Zx,Zy,Zz,Z0,Z1,Z3,Ja,Jj,Jk,Jm,Jn,Jo,Jr,Js,Ju,Jv,J1,J2,Ue,Uf,Ug,Ut,Ux,Uy,U4,U5,U7,Vb,Vc,Vk,Vm,Vo,Vp,Vq,Vr,Vs,Vt,Vu,Vv,Vw,Vx,Vy,Vz,V0,V3,V6,Wd,We,Hh,Hi,Hk,Hl,Hp,Hr,Hs,Ht,Hu,Hv,Hw,H1,H5,H6,Ne,Ni,Nk,Nl,Nm,No,Nw,Nx,Nz,N0,Be,Bh,Bi,q12R0.eq_1,q12R1.eq_1,q12R2.eq_1,q12R3.eq_1,q12R5.eq_1,q12R6.eq_1,q12R7.eq_1,q12R4.eq_1,q12R8.eq_1,c_law30_least.eq_1,c_law30_least_L0.eq_1,e9])
  | succ m ih =>
    intro i t h1 hi st hst
    have hi9 : i < 9 := by omega
    have hi8' : (i : Int) ≤ 8 := by omega
    have hi9' : (i : Int) < 9 := by omega
    have hw := wrap_nat (n := i) (by omega)
    have wa := sC_wat s hi9
    have q2 : 4 + i * 2 + 2 ≤ 33 := by omega
    have r1 := role30_P G s i hl
    have hok := mayW_at hm i hi9
    have hv : (1 : Int) ≤ (s.w i).1 ↔ ¬ ((s.w i).1 = 0 ∧ (s.w i).2 = 0) := by
      simp only [okW, winB, sideB, Bool.and_eq_true, Bool.or_eq_true, decide_eq_true_eq] at hok
      rcases hok.1 with h | h <;> omega
    have hmb : memB (i : Int) = true := by rw [memB_iff]; omega
    have hst2 : ∀ t, stepW s.w t i = if 0 < (s.w i).1 then (true, min t.2.1 (s.w i).1, min t.2.2 (s.w i).2) else t := fun t => by
      unfold stepW
      rw [Int.toNat_natCast]
      by_cases hp : 0 < (s.w i).1
      · rw [if_pos hp, if_pos ⟨hmb, hv.1 (by omega)⟩]
      · rw [if_neg hp, if_neg (fun h => hp (by have := hv.2 h.2; omega))]
    rw [idsR, List.foldl_append]
    obtain ⟨a, b, c⟩ := t
    simp only at hst
    have ih0 := fun t => ih (i + 1) t (by omega) (by omega)
    rw [lp_law30_least_0] at ih0
    rw [lp_law30_least_0, y_loop, hst]
    by_cases hr : roleOf s.mem i = 0
    · rw [if_neg (by simp [hr]), List.foldl_nil]
      have ih := ih0 (a, b, c)
      simp only at ih
      generalize (idsR s m (i + 1)).foldl (stepW s.w) (a, b, c) = R at ih ⊢
      generalize sC s = scs at *
      (sym => simp [Qa,Qc,Qd,Qe,Qf,Qg,Qi,Qj,Qm,Qn,Qo,Qr,Qt,Qu,Qv,Q4,Q5,Xa,Xp,Xt,X4,X5,X9,Yb,Yc,Ye,Yr,Yt,Yu,Yv,Yz,Y9,Za,Zb,Zc,Zd,Ze,Zg,Zh,Zk,Zl,Zm,Zn,Zo,Zt,Zv,Zw,Zx,Zy,Zz,Z0,Z1,Z3,Ja,Jj,Jk,Jm,Jn,Jo,Jr,Js,Ju,Jv,J1,J2,Ue,Uf,Ug,Ut,Ux,Uy,U4,U5,U7,Vb,Vc,Vk,Vm,Vo,Vp,Vq,Vr,Vs,Vt,Vu,Vv,Vw,Vx,Vy,Vz,V0,V3,V6,Wd,We,Hh,Hi,Hk,Hl,Hp,Hr,Hs,Ht,Hu,Hv,Hw,H1,H5,H6,Ne,Ni,Nk,Nl,Nm,No,Nw,Nx,Nz,N0,Be,Bh,Bi,q12R0.eq_1,q12R1.eq_1,q12R2.eq_1,q12R3.eq_1,q12R5.eq_1,q12R6.eq_1,q12R7.eq_1,q12R4.eq_1,q12R8.eq_1,c_law30_least.eq_1,c_law30_least_L0.eq_1,hi8',hi9',b0,b3,b4,wa,q2,r1,hr,hw]; tactic => (
        refine ih _ ?_
        (sym => simp [Qa,Qc,Qd,Qe,Qf,Qg,Qi,Qj,Qm,Qn,Qo,Qr,Qt,Qu,Qv,Q4,Q5,Xa,Xp,Xt,X4,X5,X9,Yb,Yc,Ye,Yr,Yt,Yu,Yv,Yz,Y9,Za,Zb,Zc,Zd,Ze,Zg,Zh,Zk,Zl,Zm,Zn,Zo,Zt,Zv,Zw,Zx,Zy,Zz,Z0,Z1,Z3,Ja,Jj,Jk,Jm,Jn,Jo,Jr,Js,Ju,Jv,J1,J2,Ue,Uf,Ug,Ut,Ux,Uy,U4,U5,U7,Vb,Vc,Vk,Vm,Vo,Vp,Vq,Vr,Vs,Vt,Vu,Vv,Vw,Vx,Vy,Vz,V0,V3,V6,Wd,We,Hh,Hi,Hk,Hl,Hp,Hr,Hs,Ht,Hu,Hv,Hw,H1,H5,H6,Ne,Ni,Nk,Nl,Nm,No,Nw,Nx,Nz,N0,Be,Bh,Bi])))
    · rw [if_pos hr, List.foldl_cons, List.foldl_nil, hst2]
      by_cases hp : 0 < (s.w i).1
      · rw [if_pos hp]
        have ih := ih0 (true, min b (s.w i).1, min c (s.w i).2)
        simp only at ih
        simp only
        generalize (idsR s m (i + 1)).foldl (stepW s.w) (true, min b (s.w i).1, min c (s.w i).2) = R at ih ⊢
        generalize sC s = scs at *
        (sym => simp [Qa,Qc,Qd,Qe,Qf,Qg,Qi,Qj,Qm,Qn,Qo,Qr,Qt,Qu,Qv,Q4,Q5,Xa,Xp,Xt,X4,X5,X9,Yb,Yc,Ye,Yr,Yt,Yu,Yv,Yz,Y9,Za,Zb,Zc,Zd,Ze,Zg,Zh,Zk,Zl,Zm,Zn,Zo,Zt,Zv,Zw,Zx,Zy,Zz,Z0,Z1,Z3,Ja,Jj,Jk,Jm,Jn,Jo,Jr,Js,Ju,Jv,J1,J2,Ue,Uf,Ug,Ut,Ux,Uy,U4,U5,U7,Vb,Vc,Vk,Vm,Vo,Vp,Vq,Vr,Vs,Vt,Vu,Vv,Vw,Vx,Vy,Vz,V0,V3,V6,Wd,We,Hh,Hi,Hk,Hl,Hp,Hr,Hs,Ht,Hu,Hv,Hw,H1,H5,H6,Ne,Ni,Nk,Nl,Nm,No,Nw,Nx,Nz,N0,Be,Bh,Bi,q12R0.eq_1,q12R1.eq_1,q12R2.eq_1,q12R3.eq_1,q12R5.eq_1,q12R6.eq_1,q12R7.eq_1,q12R4.eq_1,q12R8.eq_1,c_law30_least.eq_1,c_law30_least_L0.eq_1,hi8',hi9',b0,b3,b4,wa,q2,r1,hr,hp,hw]; tactic => (
          refine ih _ ?_
          (sym => simp [Qa,Qc,Qd,Qe,Qf,Qg,Qi,Qj,Qm,Qn,Qo,Qr,Qt,Qu,Qv,Q4,Q5,Xa,Xp,Xt,X4,X5,X9,Yb,Yc,Ye,Yr,Yt,Yu,Yv,Yz,Y9,Za,Zb,Zc,Zd,Ze,Zg,Zh,Zk,Zl,Zm,Zn,Zo,Zt,Zv,Zw,Zx,Zy,Zz,Z0,Z1,Z3,Ja,Jj,Jk,Jm,Jn,Jo,Jr,Js,Ju,Jv,J1,J2,Ue,Uf,Ug,Ut,Ux,Uy,U4,U5,U7,Vb,Vc,Vk,Vm,Vo,Vp,Vq,Vr,Vs,Vt,Vu,Vv,Vw,Vx,Vy,Vz,V0,V3,V6,Wd,We,Hh,Hi,Hk,Hl,Hp,Hr,Hs,Ht,Hu,Hv,Hw,H1,H5,H6,Ne,Ni,Nk,Nl,Nm,No,Nw,Nx,Nz,N0,Be,Bh,Bi])))
      · rw [if_neg hp]
        have ih := ih0 (a, b, c)
        simp only at ih
        generalize (idsR s m (i + 1)).foldl (stepW s.w) (a, b, c) = R at ih ⊢
        generalize sC s = scs at *
        (sym => simp [Qa,Qc,Qd,Qe,Qf,Qg,Qi,Qj,Qm,Qn,Qo,Qr,Qt,Qu,Qv,Q4,Q5,Xa,Xp,Xt,X4,X5,X9,Yb,Yc,Ye,Yr,Yt,Yu,Yv,Yz,Y9,Za,Zb,Zc,Zd,Ze,Zg,Zh,Zk,Zl,Zm,Zn,Zo,Zt,Zv,Zw,Zx,Zy,Zz,Z0,Z1,Z3,Ja,Jj,Jk,Jm,Jn,Jo,Jr,Js,Ju,Jv,J1,J2,Ue,Uf,Ug,Ut,Ux,Uy,U4,U5,U7,Vb,Vc,Vk,Vm,Vo,Vp,Vq,Vr,Vs,Vt,Vu,Vv,Vw,Vx,Vy,Vz,V0,V3,V6,Wd,We,Hh,Hi,Hk,Hl,Hp,Hr,Hs,Ht,Hu,Hv,Hw,H1,H5,H6,Ne,Ni,Nk,Nl,Nm,No,Nw,Nx,Nz,N0,Be,Bh,Bi,q12R0.eq_1,q12R1.eq_1,q12R2.eq_1,q12R3.eq_1,q12R5.eq_1,q12R6.eq_1,q12R7.eq_1,q12R4.eq_1,q12R8.eq_1,c_law30_least.eq_1,c_law30_least_L0.eq_1,hi8',hi9',b0,b3,b4,wa,q2,r1,hr,hp,hw]; tactic => (
          refine ih _ ?_
          (sym => simp [Qa,Qc,Qd,Qe,Qf,Qg,Qi,Qj,Qm,Qn,Qo,Qr,Qt,Qu,Qv,Q4,Q5,Xa,Xp,Xt,X4,X5,X9,Yb,Yc,Ye,Yr,Yt,Yu,Yv,Yz,Y9,Za,Zb,Zc,Zd,Ze,Zg,Zh,Zk,Zl,Zm,Zn,Zo,Zt,Zv,Zw,Zx,Zy,Zz,Z0,Z1,Z3,Ja,Jj,Jk,Jm,Jn,Jo,Jr,Js,Ju,Jv,J1,J2,Ue,Uf,Ug,Ut,Ux,Uy,U4,U5,U7,Vb,Vc,Vk,Vm,Vo,Vp,Vq,Vr,Vs,Vt,Vu,Vv,Vw,Vx,Vy,Vz,V0,V3,V6,Wd,We,Hh,Hi,Hk,Hl,Hp,Hr,Hs,Ht,Hu,Hv,Hw,H1,H5,H6,Ne,Ni,Nk,Nl,Nm,No,Nw,Nx,Nz,N0,Be,Bh,Bi])))
theorem least30_P (s : Ses) (hs : sesB s = true) : aP G FT n_law30_least [.agg (sC s)] = some (.bool (leastB s)) := by
  obtain ⟨g1, g2, g3, g4, g5, g6, g7, g8, g9⟩ := ses_parts hs
  have key := least30_loop G s (okS_may hs).1 g4 8 1 (false, 24, 40) (by omega) rfl
  have e : (idsR s 8 1).foldl (stepW s.w) (false, 24, 40) = lstW s.w (idsL s.mem) := by
    refine (lst_same s.w (l := idsR s 8 1) (l' := idsL s.mem) fun x => ?_)
    rw [mem_idsR, mem_ids g1]
    constructor
    · exact fun h => h.2.2
    · intro h
      have := there_id ((there_iff g1 x).2 h)
      exact ⟨by omega, by omega, h⟩
  rw [e] at key
  have b0 := sC_len s
  have b1 := sC_st s
  have b2 := sC_22 s
  have b3 := sC_23 s
  simp only at key
  simp only [show ((1 : Nat) : Int) = 1 from rfl] at key
  unfold leastB
  generalize lstW s.w (idsL s.mem) = t at *
  obtain ⟨t1, t2, t3⟩ := t
  simp only at key ⊢
  have key := key ⟨[(1, .ptr 0 0 0 0), (3, .int .i64 24), (4, .int .i64 40), (5, .bool false), (6, .int .i64 1)], [⟨33, 0, true, [sC s]⟩]⟩ (by (sym => simp [Qb,Qd,Qe,Qf,Qg,Qh,Qi,Qj,Qr,Qt,Qu,Qw,Q4,Xa,Xd,Xp,X8,Yj,Yr,Yt,Yv,Y1,Y5,Y7,Y9,Za,Zb,Zc,Ze,Zg,Zh,Zi,Zj,Zk,Zl,Zm,Zn,Zr,Zs,Zt,Zu,Zv,Zw,Zx,Zy,Zz,Z0,Z3,Ja,Jb,Jj,Jk,Jn,Jq,Jv,Jx,Ut,Ux,Uy,U4,U5,U7,Vb,Vc,Vk,Vm,Vo,Vp,Vq,Vr,Vs,Vt,Vu,Vv,Vw,Vx,Vy,Vz,V0,Wk,Hh,Hp,Hv,Hw,H1,H5,H6,Ne,Nl,Nm,No,Nq,Nr,Ns,Nt,Nu,Nw,Nx,Be]))
  unfold aP
  rw [run_law30_least]
  generalize sC s = scs at *
  cases t1 with
  | false => (sym => simp [Qb,Qd,Qe,Qf,Qg,Qh,Qi,Qj,Qr,Qt,Qu,Qw,Q4,Xa,Xd,Xp,X8,Yj,Yr,Yt,Yv,Y1,Y5,Y7,Y9,Za,Zb,Zc,Ze,Zg,Zh,Zi,Zj,Zk,Zl,Zm,Zn,Zr,Zs,Zt,Zu,Zv,Zw,Zx,Zy,Zz,Z0,Z3,Ja,Jb,Jj,Jk,Jn,Jq,Jv,Jx,Ut,Ux,Uy,U4,U5,U7,Vb,Vc,Vk,Vm,Vo,Vp,Vq,Vr,Vs,Vt,Vu,Vv,Vw,Vx,Vy,Vz,V0,Wk,Hh,Hp,Hv,Hw,H1,H5,H6,Ne,Nl,Nm,No,Nq,Nr,Ns,Nt,Nu,Nw,Nx,Be,q12R0.eq_1,q12R1.eq_1,q12R2.eq_1,q12R3.eq_1,q12R5.eq_1,q12R6.eq_1,q12R7.eq_1,q12R4.eq_1,q12R8.eq_1,c_law30_least.eq_1,key,b0,b1,b2,b3])
  | true =>
    by_cases hr : s.r = t2
    · by_cases hc : s.c = t3
      · (sym => simp [Qb,Qd,Qe,Qf,Qg,Qh,Qi,Qj,Qr,Qt,Qu,Qw,Q4,Xa,Xd,Xp,X8,Yj,Yr,Yt,Yv,Y1,Y5,Y7,Y9,Za,Zb,Zc,Ze,Zg,Zh,Zi,Zj,Zk,Zl,Zm,Zn,Zr,Zs,Zt,Zu,Zv,Zw,Zx,Zy,Zz,Z0,Z3,Ja,Jb,Jj,Jk,Jn,Jq,Jv,Jx,Ut,Ux,Uy,U4,U5,U7,Vb,Vc,Vk,Vm,Vo,Vp,Vq,Vr,Vs,Vt,Vu,Vv,Vw,Vx,Vy,Vz,V0,Wk,Hh,Hp,Hv,Hw,H1,H5,H6,Ne,Nl,Nm,No,Nq,Nr,Ns,Nt,Nu,Nw,Nx,Be,q12R0.eq_1,q12R1.eq_1,q12R2.eq_1,q12R3.eq_1,q12R5.eq_1,q12R6.eq_1,q12R7.eq_1,q12R4.eq_1,q12R8.eq_1,c_law30_least.eq_1,key,b0,b1,b2,b3,hr,hc])
      · (sym => simp [Qb,Qd,Qe,Qf,Qg,Qh,Qi,Qj,Qr,Qt,Qu,Qw,Q4,Xa,Xd,Xp,X8,Yj,Yr,Yt,Yv,Y1,Y5,Y7,Y9,Za,Zb,Zc,Ze,Zg,Zh,Zi,Zj,Zk,Zl,Zm,Zn,Zr,Zs,Zt,Zu,Zv,Zw,Zx,Zy,Zz,Z0,Z3,Ja,Jb,Jj,Jk,Jn,Jq,Jv,Jx,Ut,Ux,Uy,U4,U5,U7,Vb,Vc,Vk,Vm,Vo,Vp,Vq,Vr,Vs,Vt,Vu,Vv,Vw,Vx,Vy,Vz,V0,Wk,Hh,Hp,Hv,Hw,H1,H5,H6,Ne,Nl,Nm,No,Nq,Nr,Ns,Nt,Nu,Nw,Nx,Be,q12R0.eq_1,q12R1.eq_1,q12R2.eq_1,q12R3.eq_1,q12R5.eq_1,q12R6.eq_1,q12R7.eq_1,q12R4.eq_1,q12R8.eq_1,c_law30_least.eq_1,key,b0,b1,b2,b3,hr,hc])
    · (sym => simp [Qb,Qd,Qe,Qf,Qg,Qh,Qi,Qj,Qr,Qt,Qu,Qw,Q4,Xa,Xd,Xp,X8,Yj,Yr,Yt,Yv,Y1,Y5,Y7,Y9,Za,Zb,Zc,Ze,Zg,Zh,Zi,Zj,Zk,Zl,Zm,Zn,Zr,Zs,Zt,Zu,Zv,Zw,Zx,Zy,Zz,Z0,Z3,Ja,Jb,Jj,Jk,Jn,Jq,Jv,Jx,Ut,Ux,Uy,U4,U5,U7,Vb,Vc,Vk,Vm,Vo,Vp,Vq,Vr,Vs,Vt,Vu,Vv,Vw,Vx,Vy,Vz,V0,Wk,Hh,Hp,Hv,Hw,H1,H5,H6,Ne,Nl,Nm,No,Nq,Nr,Ns,Nt,Nu,Nw,Nx,Be,q12R0.eq_1,q12R1.eq_1,q12R2.eq_1,q12R3.eq_1,q12R5.eq_1,q12R6.eq_1,q12R7.eq_1,q12R4.eq_1,q12R8.eq_1,c_law30_least.eq_1,key,b0,b1,b2,b3,hr])
end Go.Proofs.Ythcnhibjddomdaa
