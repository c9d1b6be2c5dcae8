/- SessionMay: the law. Conditions: as each statement says. -/
import Derived.Test.YthcnhibjddomdaaGreatSf2
import Derived.Test.YthcnhibjddomdaaGreatSeh
import Derived.Test.YthcnhibjddomdaaGreatSej
import Derived.Test.YthcnhibjddomdaaGreatSek
set_option linter.unusedVariables false
set_option linter.unusedSimpArgs false
set_option linter.unusedSectionVars false
set_option maxRecDepth 20000
set_option maxHeartbeats 8000000
namespace Go.Proofs.YthcnhibjddomdaaGreat
open Go
variable (G : Nat → Option (List AV))
theorem rsame30_P (a b : Ses) (h : okS a) : aP G FT n_ref30_Same [.agg (sC a), .agg (sC b)] = some (.bool (sameS a b)) := by
  have hM := fun b1 f1 b2 f2 => same26_P G a.mem b.mem b1 f1 b2 f2 (by have := h.1; omega)
  have hI := fun b1 f1 b2 f2 => same_P G a.h b.h a.tq b.tq b1 f1 b2 f2 (by have := h.2.1; omega)
  have hQ := fun b1 f1 b2 f2 => rsame28_P G a.q b.q b1 f1 b2 f2 h.2.2.1
  have hW := wEq_eq a.w b.w
  have hK := kEq_eq a.k b.k
  have a0 := sC_0 a
  have a1 := sC_tk a
  have a3 := sC_3 a
  have a4 := sC_w a
  have a5 := sC_k a
  have a6 := sC_22 a
  have a7 := sC_23 a
  have a8 := sC_len a
  have a9 := sC_st a
  have b0 := sC_0 b
  have b1 := sC_tk b
  have b3 := sC_3 b
  have b4 := sC_w b
  have b5 := sC_k b
  have b6 := sC_22 b
  have b7 := sC_23 b
  have b8 := sC_len b
  have b9 := sC_st b
  have h23 : (decide (a.h = b.h) && decide (a.tq = b.tq)) = decide (a.h = b.h ∧ a.tq = b.tq) := by rw [Bool.decide_and]
  unfold aP
  have hsS : sameS a b = (decide (a.mem = b.mem) && decide (a.h = b.h ∧ a.tq = b.tq) && sameQ a.q b.q && wEq a.w b.w && decide (a.r = b.r) && decide (a.c = b.c) && kEq a.k b.k) := by
    unfold sameS
    rw [← h23, ← Bool.and_assoc]
  rw [run_ref30_Same, hsS]
  generalize decide (a.h = b.h ∧ a.tq = b.tq) = tt at *
  generalize sC a = sca at *
  generalize sC b = scb at *
  generalize cellsW a.w = cwa at *
  generalize cellsW b.w = cwb at *
  generalize cellsK a.k = cka at *
  generalize cellsK b.k = ckb at *
  cases h1 : decide (a.mem = b.mem) with
  | false =>
    simp only [h1, Bool.false_and]
    (sym => simp [Qb,Qd,Qe,Qf,Qg,Qi,Qj,Qm,Qn,Qo,Qr,Qt,Qu,Qw,Q4,Xa,Xb,Xp,X8,Yj,Yr,Yt,Yu,Yv,Y1,Y5,Y7,Y9,Za,Zb,Zc,Ze,Zg,Zh,Zi,Zj,Zk,Zl,Zm,Zn,Zo,Zr,Zs,Zt,Zu,Zv,Zw,Zy,Z0,Z3,Ja,Jh,Jj,Jk,Jv,Jx,Km,V3,V6,V9,Wd,We,Wk,Hh,Hi,Hu,Hv,Nl,Nm,Be,q52R0.eq_1,q52R1.eq_1,c_ref30_Same.eq_1,hM,h1,a0,a8,a9,b0,b8,b9])
  | true =>
  cases h3 : tt with
  | false =>
    subst h3
    simp only [Bool.true_and, Bool.false_and]
    (sym => simp [Qb,Qd,Qe,Qf,Qg,Qi,Qj,Qm,Qn,Qo,Qr,Qt,Qu,Qw,Q4,Xa,Xb,Xp,X8,Yj,Yr,Yt,Yu,Yv,Y1,Y5,Y7,Y9,Za,Zb,Zc,Ze,Zg,Zh,Zi,Zj,Zk,Zl,Zm,Zn,Zo,Zr,Zs,Zt,Zu,Zv,Zw,Zy,Z0,Z3,Ja,Jh,Jj,Jk,Jv,Jx,Km,V3,V6,V9,Wd,We,Wk,Hh,Hi,Hu,Hv,Nl,Nm,Be,q52R0.eq_1,q52R1.eq_1,c_ref30_Same.eq_1,hM,hI,h1,a0,a1,a8,a9,b0,b1,b8,b9])
  | true =>
  subst h3
  cases h4 : sameQ a.q b.q with
  | false =>
    simp only [Bool.true_and, Bool.false_and]
    (sym => simp [Qb,Qd,Qe,Qf,Qg,Qi,Qj,Qm,Qn,Qo,Qr,Qt,Qu,Qw,Q4,Xa,Xb,Xp,X8,Yj,Yr,Yt,Yu,Yv,Y1,Y5,Y7,Y9,Za,Zb,Zc,Ze,Zg,Zh,Zi,Zj,Zk,Zl,Zm,Zn,Zo,Zr,Zs,Zt,Zu,Zv,Zw,Zy,Z0,Z3,Ja,Jh,Jj,Jk,Jv,Jx,Km,V3,V6,V9,Wd,We,Wk,Hh,Hi,Hu,Hv,Nl,Nm,Be,q52R0.eq_1,q52R1.eq_1,c_ref30_Same.eq_1,hM,hI,hQ,h1,h4,a0,a1,a3,a8,a9,b0,b1,b3,b8,b9])
  | true =>
  cases h5 : wEq a.w b.w with
  | false =>
    simp only [Bool.true_and, Bool.false_and]
    (sym => simp [Qb,Qd,Qe,Qf,Qg,Qi,Qj,Qm,Qn,Qo,Qr,Qt,Qu,Qw,Q4,Xa,Xb,Xp,X8,Yj,Yr,Yt,Yu,Yv,Y1,Y5,Y7,Y9,Za,Zb,Zc,Ze,Zg,Zh,Zi,Zj,Zk,Zl,Zm,Zn,Zo,Zr,Zs,Zt,Zu,Zv,Zw,Zy,Z0,Z3,Ja,Jh,Jj,Jk,Jv,Jx,Km,V3,V6,V9,Wd,We,Wk,Hh,Hi,Hu,Hv,Nl,Nm,Be,q52R0.eq_1,q52R1.eq_1,c_ref30_Same.eq_1,hM,hI,hQ,hW,h1,h4,h5,a0,a1,a3,a4,a8,a9,b0,b1,b3,b4,b8,b9])
  | true =>
  by_cases h6n : ¬ a.r = b.r
  · have h6' : decide (a.r = b.r) = false := by simp [h6n]
    simp only [h6', Bool.true_and, Bool.false_and]
    (sym => simp [Qb,Qd,Qe,Qf,Qg,Qi,Qj,Qm,Qn,Qo,Qr,Qt,Qu,Qw,Q4,Xa,Xb,Xp,X8,Yj,Yr,Yt,Yu,Yv,Y1,Y5,Y7,Y9,Za,Zb,Zc,Ze,Zg,Zh,Zi,Zj,Zk,Zl,Zm,Zn,Zo,Zr,Zs,Zt,Zu,Zv,Zw,Zy,Z0,Z3,Ja,Jh,Jj,Jk,Jv,Jx,Km,V3,V6,V9,Wd,We,Wk,Hh,Hi,Hu,Hv,Nl,Nm,Be,q52R0.eq_1,q52R1.eq_1,c_ref30_Same.eq_1,hM,hI,hQ,hW,h1,h4,h5,h6n,a0,a1,a3,a4,a6,a8,a9,b0,b1,b3,b4,b6,b8,b9])
  have h6 := Decidable.not_not.1 h6n
  have h6' : decide (a.r = b.r) = true := by simp [h6]
  by_cases h7n : ¬ a.c = b.c
  · have h7' : decide (a.c = b.c) = false := by simp [h7n]
    simp only [h6', h7', Bool.true_and, Bool.false_and]
    (sym => simp [Qb,Qd,Qe,Qf,Qg,Qi,Qj,Qm,Qn,Qo,Qr,Qt,Qu,Qw,Q4,Xa,Xb,Xp,X8,Yj,Yr,Yt,Yu,Yv,Y1,Y5,Y7,Y9,Za,Zb,Zc,Ze,Zg,Zh,Zi,Zj,Zk,Zl,Zm,Zn,Zo,Zr,Zs,Zt,Zu,Zv,Zw,Zy,Z0,Z3,Ja,Jh,Jj,Jk,Jv,Jx,Km,V3,V6,V9,Wd,We,Wk,Hh,Hi,Hu,Hv,Nl,Nm,Be,q52R0.eq_1,q52R1.eq_1,c_ref30_Same.eq_1,hM,hI,hQ,hW,h1,h4,h5,h6,h7n,a0,a1,a3,a4,a6,a7,a8,a9,b0,b1,b3,b4,b6,b7,b8,b9])
  have h7 := Decidable.not_not.1 h7n
  have h7' : decide (a.c = b.c) = true := by simp [h7]
  simp only [h6', h7', Bool.true_and]
  (sym => simp [Qb,Qd,Qe,Qf,Qg,Qi,Qj,Qm,Qn,Qo,Qr,Qt,Qu,Qw,Q4,Xa,Xb,Xp,X8,Yj,Yr,Yt,Yu,Yv,Y1,Y5,Y7,Y9,Za,Zb,Zc,Ze,Zg,Zh,Zi,Zj,Zk,Zl,Zm,Zn,Zo,Zr,Zs,Zt,Zu,Zv,Zw,Zy,Z0,Z3,Ja,Jh,Jj,Jk,Jv,Jx,Km,V3,V6,V9,Wd,We,Wk,Hh,Hi,Hu,Hv,Nl,Nm,Be,q52R0.eq_1,q52R1.eq_1,c_ref30_Same.eq_1,hM,hI,hQ,hW,hK,h1,h4,h5,h6,h7,a0,a1,a3,a4,a5,a6,a7,a8,a9,b0,b1,b3,b4,b5,b6,b7,b8,b9])
def cpyS (s : Ses) : Ses := { s with q := cpQ s.q, f1 := false, f2 := false, f3 := false }
theorem rcopy30_P (s : Ses) (h : okS s) : aP G FT n_ref30_Copy [.agg (sC s)] = some (.agg (sC (cpyS s))) := by
  obtain ⟨hl1, hl2, hl3⟩ := h
  have hP := fun b f => rcopy_P G s.q b f hl3
  have t1 := tl_len s
  have t2 := tl_ids s
  have t3 := tl_st s
  have t4 := tl_v s
  have t5 := tl_f s
  have t6 := tl_ren s
  have t7 := tl_take s
  have m1 := mbs_len s.mem
  have m2 := ints_len s.tq
  have n1 : s.mem.length * 16 ≤ 140737488355328 := by omega
  have n2 : s.tq.length * 8 ≤ 140737488355328 := by omega
  have k1 : List.take s.mem.length (mbs s.mem) = mbs s.mem := List.take_of_length_le (by omega)
  have k2 : List.take s.tq.length (ints s.tq) = ints s.tq := List.take_of_length_le (by omega)
  have e : sC (cpyS s) = .data false 2 (mbs s.mem) false :: .int .i64 s.h :: .data false 1 (ints s.tq) false :: .data false 3 (pcs (cpQ s.q)) false :: tl s := rfl
  rw [e, sC_eq]
  generalize tl s = T at *
  unfold aP
  rw [run_ref30_Copy]
  (sym => simp [Qb,Qd,Qe,Qi,Qm,Qn,Qo,Qv,Qw,Qz,Q2,Q4,Q5,Xp,X0,Yj,Yr,Yt,Yu,Yv,Y1,Y3,Y5,Y8,Y9,Za,Zb,Zc,Zd,Ze,Zg,Zh,Zi,Zj,Zk,Zl,Zm,Zn,Zo,Zr,Zs,Zt,Zu,Zv,Zw,Zx,Zy,Zz,Z0,Z1,Jj,Jk,Jv,Jx,J1,J2,J6,J7,Kv,Kx,Ua,Uc,Ue,Uf,Ug,Ul,Uq,V9,Wd,We,Wf,Wg,Wh,Wj,Wq,Hh,Hi,Hk,Hl,Ho,Hp,Hq,Hr,Hs,Ht,Hu,Hv,Hw,H2,H8,Ng,Nl,No,Nq,Nx,Nz,N0,N2,Be,Bg,q47R0.eq_1,q47R1.eq_1,q47R2.eq_1,q47R3.eq_1,q47R4.eq_1,c_ref30_Copy.eq_1,hP,t1,t2,t3,t4,t5,t6,t7,m1,m2,k1,k2,n1,n2,List.nil_append])
theorem sameQ_cpR : ∀ (q : List Pc), sameQ q (cpQ q) = true
  | [] => rfl
  | x :: q => by
    show sameQ (x :: q) (cp x :: cpQ q) = true
    rw [sameQ, sameQ_cpR q, Bool.and_true]
    simp [sameP, cp, bEq_self]
theorem same_cpy (s : Ses) : sameS s (cpyS s) = true := by
  have e1 : (cpyS s).mem = s.mem := rfl
  have e2 : (cpyS s).h = s.h := rfl
  have e3 : (cpyS s).tq = s.tq := rfl
  have e4 : (cpyS s).q = cpQ s.q := rfl
  have e5 : (cpyS s).w = s.w := rfl
  have e6 : (cpyS s).r = s.r := rfl
  have e7 : (cpyS s).c = s.c := rfl
  have e8 : (cpyS s).k = s.k := rfl
  unfold sameS
  rw [e1, e2, e3, e4, e5, e6, e7, e8, sameQ_cpR, wEq_self fun _ _ => rfl, kEq_self fun _ _ => rfl]
  simp
/-- The first session. -/
def fS : Ses := ⟨[], 0, [], [], fun _ => (0, 0), 24, 40, fun _ => 0, false, false, false⟩
def fS2 : Ses := ⟨[], 0, [], [], fun _ => (0, 0), 24, 40, fun _ => 0, true, true, true⟩
theorem first_P : aP G FT n_session_First [] = some (.agg (sC fS)) := by
  have e : sC fS = (.data false 2 [] false :: .int .i64 0 :: .data false 1 [] false :: .data false 3 [] false :: .int .i64 0 :: .int .i64 0 :: .int .i64 0 :: .int .i64 0 :: .int .i64 0 :: .int .i64 0 :: .int .i64 0 :: .int .i64 0 :: .int .i64 0 :: .int .i64 0 :: .int .i64 0 :: .int .i64 0 :: .int .i64 0 :: .int .i64 0 :: .int .i64 0 :: .int .i64 0 :: .int .i64 0 :: .int .i64 0 :: .int .i64 24 :: .int .i64 40 :: .int .i64 0 :: .int .i64 0 :: .int .i64 0 :: .int .i64 0 :: .int .i64 0 :: .int .i64 0 :: .int .i64 0 :: .int .i64 0 :: .int .i64 0 :: []) := rfl
  rw [e]
  unfold aP
  rw [run_session_First]
  (sym => simp [Qb,Qd,Qe,Qi,Qj,Qv,Qx,Qy,Q1,Q5,Yk,Yr,Yu,Y1,Y5,Y8,Y9,Za,Zb,Zc,Zd,Ze,Zg,Zh,Zj,Zl,Zm,Zn,Zr,Zs,Zt,Zu,Zv,Zw,Zy,Z0,Z1,Jj,Jk,Jv,Jx,J1,J2,K8,K9,Ue,Uf,Ug,Ul,Wg,Wh,Wj,Wp,Wq,Hh,Hk,Ho,Hp,Hq,Hr,Hs,Ht,Hu,Hv,Hw,No,Nx,Nz,N0,Be,q68R0.eq_1,q68R1.eq_1,c_session_First.eq_1])
theorem may_law_P (s o : Ses) : aP G FT n_law30_SessionMay [.agg (sC s), .agg (sC o)] = some (.bool true) := by
  have hK := known30_P G
  have hG1 := great30_P G s
  have hG2 := great30_P G o
  have a1 := sC_len s
  have a2 := sC_st s
  have a3 := sC_all s
  have a4 := sC_v s
  have b1 := sC_len o
  have b2 := sC_st o
  have b3 := sC_all o
  have b4 := sC_v o
  unfold aP
  rw [run_law30_SessionMay]
  cases g1 : greatS s with
  | true =>
    generalize sC s = scs at *
    generalize sC o = sco at *
    (sym => simp [Qb,Qc,Qd,Qe,Qf,Qg,Qi,Qj,Qm,Qn,Qo,Qr,Qt,Qu,Qw,Qx,Qy,Q1,Q4,Xb,Xd,Yj,Yk,Yr,Yu,Y1,Y5,Y7,Y9,Za,Zb,Zc,Ze,Zg,Zh,Zi,Zj,Zk,Zl,Zm,Zn,Zo,Zr,Zs,Zt,Zu,Zv,Zw,Zy,Z0,Z3,Ja,Jb,Jh,Jj,Jk,Jl,Jr,Jv,Jx,J1,Ki,Kn,K8,K9,V3,V6,V9,Wd,We,Wk,Hh,Hi,Ho,Hp,Hr,Hs,Hu,Hv,Nw,Nx,Nz,Be,q7R0.eq_1,q7R1.eq_1,q7R2.eq_1,q7R3.eq_1,q7R4.eq_1,q7R5.eq_1,c_law30_SessionMay.eq_1,hK,hG1,g1,a1,a2,a3,a4,b1,b2,b3,b4])
  | false =>
  cases g2 : greatS o with
  | true =>
    generalize sC s = scs at *
    generalize sC o = sco at *
    (sym => simp [Qb,Qc,Qd,Qe,Qf,Qg,Qi,Qj,Qm,Qn,Qo,Qr,Qt,Qu,Qw,Qx,Qy,Q1,Q4,Xb,Xd,Yj,Yk,Yr,Yu,Y1,Y5,Y7,Y9,Za,Zb,Zc,Ze,Zg,Zh,Zi,Zj,Zk,Zl,Zm,Zn,Zo,Zr,Zs,Zt,Zu,Zv,Zw,Zy,Z0,Z3,Ja,Jb,Jh,Jj,Jk,Jl,Jr,Jv,Jx,J1,Ki,Kn,K8,K9,V3,V6,V9,Wd,We,Wk,Hh,Hi,Ho,Hp,Hr,Hs,Hu,Hv,Nw,Nx,Nz,Be,q7R0.eq_1,q7R1.eq_1,q7R2.eq_1,q7R3.eq_1,q7R4.eq_1,q7R5.eq_1,c_law30_SessionMay.eq_1,hK,hG1,hG2,g1,g2,a1,a2,a3,a4,b1,b2,b3,b4])
  | false =>
  obtain ⟨_, _, _, ok⟩ := great30_ok g1
  have hM := smay30_P G s ok
  have hR := rses_P G s ok
  have hS := same30_P G s o ok
  have hS2 := rsame30_P G s o ok
  have hC := rcopy30_P G s ok
  have hS3 := same30_P G s (cpyS s) ok
  rw [same_cpy] at hS3
  have hF := first_P G
  have okf : okS fS := ⟨by simp [fS], by simp [fS], by simp [fS], by simp [fS]⟩
  have hS4 := rsame30_P G fS fS2 okf
  have h4 : sameS fS fS2 = true := by
    unfold sameS
    have e1 : fS2.w = fS.w := rfl
    have e2 : fS2.k = fS.k := rfl
    rw [e1, e2, wEq_self fun _ _ => rfl, kEq_self fun _ _ => rfl]
    rfl
  rw [h4] at hS4
  have e2 : sC fS2 = (.data false 2 [] true :: .int .i64 0 :: .data false 1 [] true :: .data false 3 [] true :: .int .i64 0 :: .int .i64 0 :: .int .i64 0 :: .int .i64 0 :: .int .i64 0 :: .int .i64 0 :: .int .i64 0 :: .int .i64 0 :: .int .i64 0 :: .int .i64 0 :: .int .i64 0 :: .int .i64 0 :: .int .i64 0 :: .int .i64 0 :: .int .i64 0 :: .int .i64 0 :: .int .i64 0 :: .int .i64 0 :: .int .i64 24 :: .int .i64 40 :: .int .i64 0 :: .int .i64 0 :: .int .i64 0 :: .int .i64 0 :: .int .i64 0 :: .int .i64 0 :: .int .i64 0 :: .int .i64 0 :: .int .i64 0 :: []) := rfl
  rw [e2] at hS4
  have c4 := sC_v (cpyS s)
  have f4 := sC_v fS
  generalize sC s = scs at *
  generalize sC o = sco at *
  generalize sC (cpyS s) = scc at *
  generalize sC fS = scf at *
  generalize sesB s = v1 at *
  generalize sameS s o = v2 at *
  cases v1 <;> cases v2 <;> (sym => simp [Qb,Qc,Qd,Qe,Qf,Qg,Qi,Qj,Qm,Qn,Qo,Qr,Qt,Qu,Qw,Qx,Qy,Q1,Q4,Xb,Xd,Yj,Yk,Yr,Yu,Y1,Y5,Y7,Y9,Za,Zb,Zc,Ze,Zg,Zh,Zi,Zj,Zk,Zl,Zm,Zn,Zo,Zr,Zs,Zt,Zu,Zv,Zw,Zy,Z0,Z3,Ja,Jb,Jh,Jj,Jk,Jl,Jr,Jv,Jx,J1,Ki,Kn,K8,K9,V3,V6,V9,Wd,We,Wk,Hh,Hi,Ho,Hp,Hr,Hs,Hu,Hv,Nw,Nx,Nz,Be,q7R0.eq_1,q7R1.eq_1,q7R2.eq_1,q7R3.eq_1,q7R4.eq_1,q7R5.eq_1,c_law30_SessionMay.eq_1,hK,hG1,hG2,g1,g2,hM,hR,hS,hS2,hC,hS3,hF,hS4,a1,a2,a3,a4,b1,b2,b3,b4,c4,f4])
theorem law_SessionMay (a0 a1 : List AV) (h0 : HasTys (.sl [.int .i64, .int .i64] :: .int .i64 :: .sl [.int .i64] :: .sl [.int .i64, .int .i64, .sl [.int .u8]] :: List.replicate 29 (.int .i64)) a0) (h1 : HasTys (.sl [.int .i64, .int .i64] :: .int .i64 :: .sl [.int .i64] :: .sl [.int .i64, .int .i64, .sl [.int .u8]] :: List.replicate 29 (.int .i64)) a1) :
    aP G FT n_law30_SessionMay [.agg a0, .agg a1] = some (.bool true) := by
  obtain ⟨s, rfl⟩ := ty_ses h0
  obtain ⟨o, rfl⟩ := ty_ses h1
  exact may_law_P G s o
end Go.Proofs.YthcnhibjddomdaaGreat
