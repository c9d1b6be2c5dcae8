/- Sessions: what a deed does. Conditions: as each statement says. -/
import Derived.Test.YthcnhibjddomdaaSec
set_option linter.unusedVariables false
set_option linter.unusedSimpArgs false
set_option linter.unusedSectionVars false
set_option maxRecDepth 20000
set_option maxHeartbeats 8000000
namespace Go.Proofs.Ythcnhibjddomdaa
open Go
variable (G : Nat → Option (List AV))
/-- The rows ahead of what a deed does. -/
def rows9 (e0 e1 e2 e3 : List (List AV)) (id n : Int) (d : Dd) : List ARow := [⟨33, 0, true, e0⟩, ⟨4, 0, true, e1⟩, ⟨33, 0, true, e2⟩, ⟨2, 0, true, e3⟩, ⟨1, 0, true, [[.int .i64 id]]⟩, ⟨1, 0, true, [[.int .i64 n]]⟩, ⟨4, 0, true, [dC d]⟩, ⟨4, 0, true, [dC d]⟩, ⟨2, 0, false, [[.int .i64 0, .own 7 0 0 1 1]]⟩]
def rows4 (e0 e1 e2 e3 : List (List AV)) : List ARow := [⟨33, 0, true, e0⟩, ⟨4, 0, true, e1⟩, ⟨33, 0, true, e2⟩, ⟨2, 0, true, e3⟩]
/-- What does tells. -/
def doF (k : Int) : AV := if k = 1 then .fn (.func n_session_does_1) [] [.ptr 4 0 0 0, .ptr 5 0 0 0, .ptr 6 0 0 0] else if k = 2 then .fn (.func n_session_does_2) [] [.ptr 4 0 0 0, .ptr 6 0 0 0] else if k = 3 then .fn (.func n_session_does_3) [] [.ptr 4 0 0 0] else .fn (.func n_session_does_4) [] [.ptr 4 0 0 0]
theorem does_true (d : Dd) (hd : deedD d = true) (id n : Int) (e0 e1 e2 e3 : List (List AV)) : aR G FT n_session_does [.int .i64 id, .int .i64 n, .agg (dC d)] (rows4 e0 e1 e2 e3) = some (doF d.1, rows9 e0 e1 e2 e3 id n d) := by
  obtain ⟨dk, dt, dr, dk2, df⟩ := d
  have hM := fun e4 e5 e6 => iMay_true G (dk, dt, dr, dk2, df) hd e0 e1 e2 e3 e4 e5 e6
  have hsd : AV.stableL (dC (dk, dt, dr, dk2, df)) = true := by simp [dC, AV.stableL, AV.stable]
  unfold dC at hM hsd
  unfold rows4 rows9 doF dC
  simp only at hM hsd ⊢
  rw [run_session_does]
  by_cases k1 : dk = 1
  · subst k1; rw [if_pos rfl]; (sym => simp [Qb,Qc,Qd,Qe,Qi,Qj,Qm,Qn,Qo,Qr,Qt,Qw,Qx,Qy,Qz,Q0,Q1,Q2,Q4,Xa,Xd,Xj,Xp,X8,Yj,Yk,Yo,Yr,Yt,Yu,Yv,Y1,Y5,Y7,Y9,Za,Zb,Zc,Ze,Zg,Zh,Zi,Zj,Zk,Zl,Zm,Zn,Zq,Zr,Zs,Zt,Zu,Zv,Zw,Zy,Z0,Z3,Jj,Jk,Jl,Jn,Jo,Jp,Jr,Jv,Jx,J1,K8,K9,Ua,Ub,Uc,Ud,Ue,Uf,Ug,Ul,Hh,Hi,Hk,Ho,Hp,Hq,Hr,Hs,Ht,Hu,Hv,Hw,Hx,H2,H3,Nl,Nm,No,Nw,Nx,Nz,Be,q45R0.eq_1,q45R1.eq_1,q45R2.eq_1,q45R3.eq_1,q45R4.eq_1,q45R5.eq_1,q45R6.eq_1,q45R7.eq_1,q45R8.eq_1,q45R9.eq_1,q45R10.eq_1,c_session_does.eq_1,hM,hsd])
  rw [if_neg k1]
  by_cases k2 : dk = 2
  · subst k2; rw [if_pos rfl]; (sym => simp [Qb,Qc,Qd,Qe,Qi,Qj,Qm,Qn,Qo,Qr,Qt,Qw,Qx,Qy,Qz,Q0,Q1,Q2,Q4,Xa,Xd,Xj,Xp,X8,Yj,Yk,Yo,Yr,Yt,Yu,Yv,Y1,Y5,Y7,Y9,Za,Zb,Zc,Ze,Zg,Zh,Zi,Zj,Zk,Zl,Zm,Zn,Zq,Zr,Zs,Zt,Zu,Zv,Zw,Zy,Z0,Z3,Jj,Jk,Jl,Jn,Jo,Jp,Jr,Jv,Jx,J1,K8,K9,Ua,Ub,Uc,Ud,Ue,Uf,Ug,Ul,Hh,Hi,Hk,Ho,Hp,Hq,Hr,Hs,Ht,Hu,Hv,Hw,Hx,H2,H3,Nl,Nm,No,Nw,Nx,Nz,Be,q45R0.eq_1,q45R1.eq_1,q45R2.eq_1,q45R3.eq_1,q45R4.eq_1,q45R5.eq_1,q45R6.eq_1,q45R7.eq_1,q45R8.eq_1,q45R9.eq_1,q45R10.eq_1,c_session_does.eq_1,hM,hsd,k1])
  rw [if_neg k2]
  by_cases k3 : dk = 3
  · subst k3; rw [if_pos rfl]; (sym => simp [Qb,Qc,Qd,Qe,Qi,Qj,Qm,Qn,Qo,Qr,Qt,Qw,Qx,Qy,Qz,Q0,Q1,Q2,Q4,Xa,Xd,Xj,Xp,X8,Yj,Yk,Yo,Yr,Yt,Yu,Yv,Y1,Y5,Y7,Y9,Za,Zb,Zc,Ze,Zg,Zh,Zi,Zj,Zk,Zl,Zm,Zn,Zq,Zr,Zs,Zt,Zu,Zv,Zw,Zy,Z0,Z3,Jj,Jk,Jl,Jn,Jo,Jp,Jr,Jv,Jx,J1,K8,K9,Ua,Ub,Uc,Ud,Ue,Uf,Ug,Ul,Hh,Hi,Hk,Ho,Hp,Hq,Hr,Hs,Ht,Hu,Hv,Hw,Hx,H2,H3,Nl,Nm,No,Nw,Nx,Nz,Be,q45R0.eq_1,q45R1.eq_1,q45R2.eq_1,q45R3.eq_1,q45R4.eq_1,q45R5.eq_1,q45R6.eq_1,q45R7.eq_1,q45R8.eq_1,q45R9.eq_1,q45R10.eq_1,c_session_does.eq_1,hM,hsd,k1,k2])
  rw [if_neg k3]
  (sym => simp [Qb,Qc,Qd,Qe,Qi,Qj,Qm,Qn,Qo,Qr,Qt,Qw,Qx,Qy,Qz,Q0,Q1,Q2,Q4,Xa,Xd,Xj,Xp,X8,Yj,Yk,Yo,Yr,Yt,Yu,Yv,Y1,Y5,Y7,Y9,Za,Zb,Zc,Ze,Zg,Zh,Zi,Zj,Zk,Zl,Zm,Zn,Zq,Zr,Zs,Zt,Zu,Zv,Zw,Zy,Z0,Z3,Jj,Jk,Jl,Jn,Jo,Jp,Jr,Jv,Jx,J1,K8,K9,Ua,Ub,Uc,Ud,Ue,Uf,Ug,Ul,Hh,Hi,Hk,Ho,Hp,Hq,Hr,Hs,Ht,Hu,Hv,Hw,Hx,H2,H3,Nl,Nm,No,Nw,Nx,Nz,Be,q45R0.eq_1,q45R1.eq_1,q45R2.eq_1,q45R3.eq_1,q45R4.eq_1,q45R5.eq_1,q45R6.eq_1,q45R7.eq_1,q45R8.eq_1,q45R9.eq_1,q45R10.eq_1,c_session_does.eq_1,hM,hsd,k1,k2,k3])
theorem does_false (d : Dd) (hd : deedD d = false) (id n : Int) (e0 e1 e2 e3 : List (List AV)) : aR G FT n_session_does [.int .i64 id, .int .i64 n, .agg (dC d)] (rows4 e0 e1 e2 e3) = some (.nilfn, rows9 e0 e1 e2 e3 id n d ++ [⟨4, 0, true, [dC d]⟩]) := by
  have hM := fun e4 e5 e6 => iMay_false G d hd e0 e1 e2 e3 e4 e5 e6
  have hsd : AV.stableL (dC d) = true := by simp [dC, AV.stableL, AV.stable]
  unfold dC at hM hsd
  unfold rows4 rows9 dC
  rw [run_session_does]
  (sym => simp [Qb,Qd,Qe,Qi,Qj,Qm,Qn,Qo,Qr,Qt,Qw,Qx,Qy,Qz,Q0,Q1,Q2,Q4,Xd,Yj,Yk,Yo,Yr,Yu,Y1,Y5,Y7,Y9,Za,Zb,Zc,Ze,Zg,Zh,Zi,Zj,Zk,Zl,Zm,Zn,Zq,Zr,Zs,Zt,Zu,Zv,Zw,Zy,Z0,Jj,Jk,Jl,Jr,Jv,Jx,J1,K8,K9,Ua,Ub,Uc,Ud,Ue,Uf,Ug,Ul,Hh,Hi,Hk,Ho,Hp,Hq,Hr,Hs,Ht,Hu,Hv,Hw,Hx,H2,H3,No,Nx,Nz,Be,q45R0.eq_1,q45R1.eq_1,q45R2.eq_1,q45R3.eq_1,q45R4.eq_1,q45R5.eq_1,q45R6.eq_1,q45R7.eq_1,q45R8.eq_1,q45R9.eq_1,q45R10.eq_1,c_session_does.eq_1,hM,hsd])
/-- With another queue, windows, token, count. -/
def queS (s : Ses) (q : List Pc) : Ses := { s with q := q, f3 := false }
def winS (s : Ses) (j : Nat) (r c : Int) : Ses := { s with w := setW s.w j r c }
def tokS (s : Ses) (h : Int) (q : List Int) : Ses := { s with h := h, tq := q, f2 := false }
def cntS (s : Ses) (j : Nat) (n : Int) : Ses := { s with k := fun x => if x = j then n else s.k x }
theorem queS_eq (s : Ses) (q : List Pc) : (sC s).set 3 (.data false 3 (pcs q) false) = sC (queS s q) := rfl
theorem winS_eq (s : Ses) (j : Nat) (r c : Int) : (sC s).take 4 ++ cellsW (setW s.w j r c) ++ (sC s).drop 22 = sC (winS s j r c) := rfl
theorem tokS_eq (s : Ses) (h : Int) (q : List Int) : (sC s).take 1 ++ [.int .i64 h, .data false 1 (ints q) false] ++ (sC s).drop 3 = sC (tokS s h q) := rfl
theorem cntS_eq (s : Ses) {j : Nat} (h : j < 9) (n : Int) : (sC s).set (24 + j) (.int .i64 n) = sC (cntS s j n) := by
  rcases nine h with rfl | rfl | rfl | rfl | rfl | rfl | rfl | rfl | rfl <;> rfl
/-- What a deed does. -/
def doS (s : Ses) (j : Nat) (n : Int) (d : Dd) : Ses :=
  if d.1 = 1 then if s.h = j then queS s (pushM s.q (j, n, d.2.1, d.2.2.2.2)).1 else s
  else if d.1 = 2 then stS (winS s j d.2.2.1 d.2.2.2.1)
  else if d.1 = 3 then if wrB s.mem j = true then tokS s (askT s.h s.tq j).1 (askT s.h s.tq j).2.1 else s
  else tokS s (freeT s.h s.tq j).1 (freeT s.h s.tq j).2.1
theorem do1_run (s : Ses) (hs : okS s) (j : Nat) (n : Int) (d : Dd) (hl : d.2.1.length ≤ 1000) (e0 e1 e2 e3 : List (List AV)) : ∃ e,
    aR G FT n_session_does_1 [.agg (sC s), .ptr 4 0 0 0, .ptr 5 0 0 0, .ptr 6 0 0 0] (rows9 e0 e1 e2 e3 j n d) = some (.agg (sC (if s.h = j then queS s (pushM s.q (j, n, d.2.1, d.2.2.2.2)).1 else s)), rows9 e0 e1 e2 e3 j n d ++ e) := by
  have hP := fun b f => push_P G s.q (j, n, d.2.1, d.2.2.2.2) b f hs.2.2 hl false
  simp only at hP
  have a1 := sC_len s
  have a2 := sC_st s
  have a3 := sC_all s
  have a0 : (sC s).drop 33 = [] := rfl
  have b1 := sC_1 s
  have b3 := sC_3 s
  have q := queS_eq s (pushM s.q (j, n, d.2.1, d.2.2.2.2)).1
  have c1 := sC_len (queS s (pushM s.q (j, n, d.2.1, d.2.2.2.2)).1)
  have c2 := sC_st (queS s (pushM s.q (j, n, d.2.1, d.2.2.2.2)).1)
  have c3 := sC_all (queS s (pushM s.q (j, n, d.2.1, d.2.2.2.2)).1)
  have c0 : (sC (queS s (pushM s.q (j, n, d.2.1, d.2.2.2.2)).1)).drop 33 = [] := rfl
  unfold rows9 dC
  rw [run_session_does_1]
  generalize hx : queS s (pushM s.q (j, n, d.2.1, d.2.2.2.2)).1 = s2 at *
  by_cases he : s.h = j
  · rw [if_pos he]
    refine ⟨[⟨33, 0, true, [sC s2]⟩, ⟨33, 0, true, [sC s2]⟩], ?_⟩
    (sym => simp [Qb,Qc,Qd,Qe,Qi,Qm,Qn,Qo,Qr,Qt,Qv,Qw,Qx,Qy,Q1,Q4,Q5,Xa,Xp,Xw,Xx,X8,Yj,Yk,Yn,Yr,Yt,Yu,Yv,Y1,Y5,Y8,Y9,Za,Zb,Zc,Zd,Ze,Zg,Zh,Zi,Zj,Zk,Zl,Zm,Zn,Zo,Zr,Zs,Zt,Zu,Zv,Zw,Zy,Z0,Z1,Z3,Jj,Jk,Jr,Jv,Jx,J1,J2,J6,K8,K9,Ue,Uf,Ug,Ul,V3,V6,V9,Wd,We,Hh,Hi,Hk,Hl,Ho,Hp,Hr,Hs,Ht,Hu,Hv,Hw,Nl,Nm,No,Nx,Nz,N0,Be,q46R0.eq_1,q46R1.eq_1,q46R2.eq_1,q46R3.eq_1,c_session_does_1.eq_1,hP,he,a0,a1,a2,a3,b1,b3,q,c0,c1,c2,c3,List.append_nil])
  · rw [if_neg he]
    refine ⟨[⟨33, 0, true, [sC s]⟩, ⟨33, 0, true, [sC s]⟩], ?_⟩
    (sym => simp [Qb,Qc,Qd,Qe,Qi,Qm,Qn,Qo,Qr,Qt,Qv,Qw,Qx,Qy,Q1,Q4,Q5,Xa,Xp,Xw,Xx,X8,Yj,Yk,Yn,Yr,Yt,Yu,Yv,Y1,Y5,Y8,Y9,Za,Zb,Zc,Zd,Ze,Zg,Zh,Zi,Zj,Zk,Zl,Zm,Zn,Zo,Zr,Zs,Zt,Zu,Zv,Zw,Zy,Z0,Z1,Z3,Jj,Jk,Jr,Jv,Jx,J1,J2,J6,K8,K9,Ue,Uf,Ug,Ul,V3,V6,V9,Wd,We,Hh,Hi,Hk,Hl,Ho,Hp,Hr,Hs,Ht,Hu,Hv,Hw,Nl,Nm,No,Nx,Nz,N0,Be,q46R0.eq_1,q46R1.eq_1,q46R2.eq_1,q46R3.eq_1,c_session_does_1.eq_1,he,a0,a1,a2,a3,b1,b3,List.append_nil])
theorem do2_run (s : Ses) (hs : okS s) (hm : mayW s.w = true) (j : Nat) (h1 : 1 ≤ j) (h8 : j ≤ 8) (n : Int) (d : Dd) (hd : deedD d = true) (hk : d.1 = 2) (e0 e1 e2 e3 : List (List AV)) : ∃ e,
    aR G FT n_session_does_2 [.agg (sC s), .ptr 4 0 0 0, .ptr 6 0 0 0] (rows9 e0 e1 e2 e3 j n d) = some (.agg (sC (stS (winS s j d.2.2.1 d.2.2.2.1))), rows9 e0 e1 e2 e3 j n d ++ e) := by
  have hd' : sideB d.2.2.1 = true ∧ sideB d.2.2.2.1 = true := by
    have h := hd
    unfold deedD deedB at h
    rw [hk] at h
    rw [if_neg (by omega), if_pos rfl] at h
    simp only [Bool.and_eq_true] at h
    exact h.1
  have hW := sset_P G s.w j h1 h8 d.2.2.1 d.2.2.2.1 hm hd'.1 hd'.2
  have hS := settled_P G (winS s j d.2.2.1 d.2.2.2.1) hs
  have a1 := sC_len s
  have a2 := sC_st s
  have a3 := sC_all s
  have a0 : (sC s).drop 33 = [] := rfl
  have a4 := sC_w s
  have q := winS_eq s j d.2.2.1 d.2.2.2.1
  have v1 := cW_v s.w
  have v2 := cW_len (setW s.w j d.2.2.1 d.2.2.2.1)
  have v3 := cW_st (setW s.w j d.2.2.1 d.2.2.2.1)
  have c1 := sC_len (winS s j d.2.2.1 d.2.2.2.1)
  have c3 := sC_all (winS s j d.2.2.1 d.2.2.2.1)
  have c4 := sC_v (winS s j d.2.2.1 d.2.2.2.1)
  generalize winS s j d.2.2.1 d.2.2.2.1 = s2 at *
  generalize cellsW (setW s.w j d.2.2.1 d.2.2.2.1) = C2 at *
  have x1 := sC_len (stS s2)
  have x2 := sC_st (stS s2)
  have x3 := sC_all (stS s2)
  have x0 : (sC (stS s2)).drop 33 = [] := rfl
  generalize stS s2 = s3 at *
  unfold rows9 dC
  rw [run_session_does_2]
  refine ⟨[⟨33, 0, true, [sC s2]⟩, ⟨33, 0, true, [sC s3]⟩], ?_⟩
  (sym => simp [Qb,Qd,Qe,Qi,Qm,Qn,Qo,Qr,Qv,Qw,Q4,Q5,Xp,Xw,Xx,Yj,Yr,Yt,Yu,Yv,Y1,Y5,Y8,Y9,Za,Zb,Zc,Zd,Ze,Zg,Zh,Zi,Zj,Zk,Zl,Zm,Zn,Zo,Zr,Zs,Zt,Zu,Zv,Zw,Zy,Z0,Z1,Jj,Jk,Jv,Jx,J1,J2,Ue,Uf,Ug,Ul,V3,V6,Wd,We,Hh,Hi,Hk,Hl,Hp,Hr,Hs,Ht,Hu,Hv,Hw,No,Nx,N0,Be,q47R0.eq_1,q47R1.eq_1,q47R2.eq_1,c_session_does_2.eq_1,hW,hS,a0,a1,a2,a3,a4,q,v1,v2,v3,c1,c3,c4,x0,x1,x2,x3,List.append_nil])
theorem do3_run (s : Ses) (hs : okS s) (j : Nat) (n : Int) (d : Dd) (e0 e1 e2 e3 : List (List AV)) : ∃ e,
    aR G FT n_session_does_3 [.agg (sC s), .ptr 4 0 0 0] (rows9 e0 e1 e2 e3 j n d) = some (.agg (sC (if wrB s.mem j = true then tokS s (askT s.h s.tq j).1 (askT s.h s.tq j).2.1 else s)), rows9 e0 e1 e2 e3 j n d ++ e) := by
  have hA := fun b f => ask_P G s.h s.tq b f j hs.2.1
  have hWr := writes_P G s j (by have := hs.1; omega)
  have a1 := sC_len s
  have a2 := sC_st s
  have a3 := sC_all s
  have a0 : (sC s).drop 33 = [] := rfl
  have a4 := sC_tk s
  have a5 := sC_v s
  have q := tokS_eq s (askT s.h s.tq j).1 (askT s.h s.tq j).2.1
  have c1 := sC_len (tokS s (askT s.h s.tq j).1 (askT s.h s.tq j).2.1)
  have c2 := sC_st (tokS s (askT s.h s.tq j).1 (askT s.h s.tq j).2.1)
  have c3 := sC_all (tokS s (askT s.h s.tq j).1 (askT s.h s.tq j).2.1)
  have c0 : (sC (tokS s (askT s.h s.tq j).1 (askT s.h s.tq j).2.1)).drop 33 = [] := rfl
  simp only [tokV] at hA
  generalize tokS s (askT s.h s.tq j).1 (askT s.h s.tq j).2.1 = s2 at *
  unfold rows9 dC
  rw [run_session_does_3]
  by_cases hw : wrB s.mem j = true
  · rw [if_pos hw]
    refine ⟨[⟨33, 0, true, [sC s2]⟩, ⟨33, 0, true, [sC s2]⟩], ?_⟩
    (sym => simp [Qb,Qc,Qd,Qe,Qi,Qm,Qn,Qo,Qr,Qt,Qv,Qw,Q4,Q5,Xp,Xw,Xx,Yj,Yr,Yt,Yu,Yv,Y1,Y5,Y8,Y9,Za,Zb,Zc,Zd,Ze,Zg,Zh,Zi,Zj,Zk,Zl,Zm,Zn,Zo,Zr,Zs,Zt,Zu,Zv,Zw,Zy,Z0,Z1,Z3,Jj,Jk,Jr,Jv,Jx,J1,J2,Ue,Uf,Ug,Ul,V3,V6,V9,Wd,We,Hh,Hi,Hk,Hl,Hp,Hr,Hs,Ht,Hu,Hv,Hw,No,Nx,N0,Be,q48R0.eq_1,q48R1.eq_1,q48R2.eq_1,q48R3.eq_1,c_session_does_3.eq_1,hA,hWr,hw,a0,a1,a2,a3,a4,a5,q,c0,c1,c2,c3,List.append_nil])
  · rw [if_neg hw]
    have hw' : wrB s.mem j = false := by simpa using hw
    refine ⟨[⟨33, 0, true, [sC s]⟩, ⟨33, 0, true, [sC s]⟩], ?_⟩
    (sym => simp [Qb,Qc,Qd,Qe,Qi,Qm,Qn,Qo,Qr,Qt,Qv,Qw,Q4,Q5,Xp,Xw,Xx,Yj,Yr,Yt,Yu,Yv,Y1,Y5,Y8,Y9,Za,Zb,Zc,Zd,Ze,Zg,Zh,Zi,Zj,Zk,Zl,Zm,Zn,Zo,Zr,Zs,Zt,Zu,Zv,Zw,Zy,Z0,Z1,Z3,Jj,Jk,Jr,Jv,Jx,J1,J2,Ue,Uf,Ug,Ul,V3,V6,V9,Wd,We,Hh,Hi,Hk,Hl,Hp,Hr,Hs,Ht,Hu,Hv,Hw,No,Nx,N0,Be,q48R0.eq_1,q48R1.eq_1,q48R2.eq_1,q48R3.eq_1,c_session_does_3.eq_1,hWr,hw',a0,a1,a2,a3,a4,a5,List.append_nil])
theorem do4_run (s : Ses) (hs : okS s) (j : Nat) (n : Int) (d : Dd) (e0 e1 e2 e3 : List (List AV)) : ∃ e,
    aR G FT n_session_does_4 [.agg (sC s), .ptr 4 0 0 0] (rows9 e0 e1 e2 e3 j n d) = some (.agg (sC (tokS s (freeT s.h s.tq j).1 (freeT s.h s.tq j).2.1)), rows9 e0 e1 e2 e3 j n d ++ e) := by
  have hA := fun b f => free_P G s.h s.tq b f j hs.2.1
  have a1 := sC_len s
  have a2 := sC_st s
  have a3 := sC_all s
  have a0 : (sC s).drop 33 = [] := rfl
  have a4 := sC_tk s
  have q := tokS_eq s (freeT s.h s.tq j).1 (freeT s.h s.tq j).2.1
  have c1 := sC_len (tokS s (freeT s.h s.tq j).1 (freeT s.h s.tq j).2.1)
  have c2 := sC_st (tokS s (freeT s.h s.tq j).1 (freeT s.h s.tq j).2.1)
  have c3 := sC_all (tokS s (freeT s.h s.tq j).1 (freeT s.h s.tq j).2.1)
  have c0 : (sC (tokS s (freeT s.h s.tq j).1 (freeT s.h s.tq j).2.1)).drop 33 = [] := rfl
  simp only [tokV] at hA
  generalize tokS s (freeT s.h s.tq j).1 (freeT s.h s.tq j).2.1 = s2 at *
  unfold rows9 dC
  rw [run_session_does_4]
  refine ⟨[⟨33, 0, true, [sC s2]⟩, ⟨33, 0, true, [sC s2]⟩], ?_⟩
  (sym => simp [Qb,Qd,Qe,Qi,Qm,Qn,Qo,Qr,Qv,Qw,Q4,Q5,Xp,Xw,Xx,Yj,Yr,Yt,Yu,Yv,Y1,Y5,Y8,Y9,Za,Zb,Zc,Zd,Ze,Zg,Zh,Zi,Zj,Zk,Zl,Zm,Zn,Zo,Zr,Zs,Zt,Zu,Zv,Zw,Zy,Z0,Z1,Jj,Jk,Jv,Jx,J1,J2,Ue,Uf,Ug,Ul,V3,V6,V9,Wd,We,Hh,Hi,Hk,Hl,Hp,Hr,Hs,Ht,Hu,Hv,Hw,No,Nx,N0,Be,q49R0.eq_1,q49R1.eq_1,q49R2.eq_1,c_session_does_4.eq_1,hA,a0,a1,a2,a3,a4,q,c0,c1,c2,c3,List.append_nil])
/-- The function that does tells, applied. -/
theorem doF_run (s : Ses) (hs : okS s) (hm : mayW s.w = true) (j : Nat) (h1 : 1 ≤ j) (h8 : j ≤ 8) (n : Int) (d : Dd) (hd : deedD d = true) (hl : d.2.1.length ≤ 1000) (e0 e1 e2 e3 : List (List AV)) : ∃ f cs e, doF d.1 = .fn (.func f) [] cs ∧
    aR G FT f (.agg (sC s) :: cs) (rows9 e0 e1 e2 e3 j n d) = some (.agg (sC (doS s j n d)), rows9 e0 e1 e2 e3 j n d ++ e) := by
  unfold doF doS
  by_cases k1 : d.1 = 1
  · rw [if_pos k1, if_pos k1]
    obtain ⟨e, h⟩ := do1_run G s hs j n d hl e0 e1 e2 e3
    exact ⟨_, _, e, rfl, h⟩
  rw [if_neg k1, if_neg k1]
  by_cases k2 : d.1 = 2
  · rw [if_pos k2, if_pos k2]
    obtain ⟨e, h⟩ := do2_run G s hs hm j h1 h8 n d hd k2 e0 e1 e2 e3
    exact ⟨_, _, e, rfl, h⟩
  rw [if_neg k2, if_neg k2]
  by_cases k3 : d.1 = 3
  · rw [if_pos k3, if_pos k3]
    obtain ⟨e, h⟩ := do3_run G s hs j n d e0 e1 e2 e3
    exact ⟨_, _, e, rfl, h⟩
  rw [if_neg k3, if_neg k3]
  obtain ⟨e, h⟩ := do4_run G s hs j n d e0 e1 e2 e3
  exact ⟨_, _, e, rfl, h⟩
end Go.Proofs.Ythcnhibjddomdaa
