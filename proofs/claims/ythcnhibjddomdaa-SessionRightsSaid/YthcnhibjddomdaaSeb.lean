/- Sessions: Join, Leave, Change. Conditions: as each statement says. -/
import Derived.Test.YthcnhibjddomdaaSea
set_option linter.unusedVariables false
set_option linter.unusedSimpArgs false
set_option linter.unusedSectionVars false
set_option maxRecDepth 20000
set_option maxHeartbeats 8000000
namespace Go.Proofs.Ythcnhibjddomdaa
open Go
variable (G : Nat → Option (List AV))
/-- What becomes of a session by another roster, or a refusal. -/
def rosS (s : Ses) (x : List (Int × Int) × Int) : Ses × Int := if sesB s = true then if x.2 = 0 then (withS s x.1 false, 0) else (zS, x.2) else (zS, 2)
theorem withM_le (l : List (Int × Int)) (id r : Int) : (withM l id r).length ≤ 8 := by
  have : ∀ (f : Int → Int) (n : Nat) (k : Int), (ros f n k).length ≤ n := by
    intro f n
    induction n with
    | zero => intro k; simp [ros]
    | succ n ih => intro k; have := ih (k + 1); rw [ros]; split <;> simp <;> omega
  exact this _ 8 1
theorem joinM_le (l : List (Int × Int)) (id r : Int) : (joinM l id r).1.length ≤ 1000 := by
  have := withM_le l id r
  unfold joinM
  split
  · split
    · simp only; omega
    · simp
  · simp
theorem join30_P (s : Ses) (h : okS s) (id r : Int) : aP G FT n_session_Join [.agg (sC s), .int .i64 id, .int .i64 r] = some (.tup [.agg (sC (rosS s (joinM s.mem id r)).1), .int .i64 (rosS s (joinM s.mem id r)).2]) := by
  have hM := smay30_P G s h
  have hJ := fun b f => join_P G s.mem b f id r (by have := h.1; omega)
  have hle := joinM_le s.mem id r
  have a1 := sC_len s
  have a2 := sC_st s
  have a3 := sC_all s
  have a4 := sC_v s
  have a5 := sC_0 s
  have z : sC zS = (.data false 2 [] false :: .int .i64 0 :: .data false 1 [] false :: .data false 3 [] false :: .int .i64 0 :: .int .i64 0 :: .int .i64 0 :: .int .i64 0 :: .int .i64 0 :: .int .i64 0 :: .int .i64 0 :: .int .i64 0 :: .int .i64 0 :: .int .i64 0 :: .int .i64 0 :: .int .i64 0 :: .int .i64 0 :: .int .i64 0 :: .int .i64 0 :: .int .i64 0 :: .int .i64 0 :: .int .i64 0 :: .int .i64 0 :: .int .i64 0 :: .int .i64 0 :: .int .i64 0 :: .int .i64 0 :: .int .i64 0 :: .int .i64 0 :: .int .i64 0 :: .int .i64 0 :: .int .i64 0 :: .int .i64 0 :: []) := rfl
  generalize joinM s.mem id r = x at *
  unfold aP rosS
  rw [run_session_Join]
  cases hs : sesB s with
  | false =>
    rw [if_neg (by simp)]
    simp only [z]
    (sym => simp [Qb,Qc,Qd,Qe,Qi,Qj,Qm,Qn,Qo,Qr,Qt,Qv,Qw,Qx,Q1,Q4,Q5,Xd,Xp,Xw,Xx,Yj,Yr,Yt,Yu,Yv,Y1,Y6,Y7,Y8,Y9,Za,Zb,Zc,Zd,Ze,Zg,Zh,Zi,Zj,Zk,Zl,Zm,Zn,Zo,Zr,Zs,Zt,Zu,Zv,Zw,Zy,Z0,Z1,Z3,Jj,Jk,Jl,Jr,Jv,Jx,J1,J2,K8,Ue,Uf,Ug,Ul,V3,V6,V9,Wd,We,Wg,Wh,Wi,Wj,Wp,Wq,Hh,Hi,Hk,Hl,Ho,Hp,Hq,Hr,Hs,Ht,Hu,Hv,Hw,No,Nw,Nx,N0,Be,q35R0.eq_1,q35R1.eq_1,q35R2.eq_1,q35R3.eq_1,q35R4.eq_1,c_session_Join.eq_1,hM,hs,a1,a2,a3,a4])
  | true =>
    rw [if_pos rfl]
    by_cases he : x.2 = 0
    · rw [if_pos he]
      have hW := with30_P G s h x.1 false hle
      have d1 := sC_len (withS s x.1 false)
      have d2 := sC_st (withS s x.1 false)
      have d3 := sC_all (withS s x.1 false)
      have d4 : ∀ h, afreezeL h (sC (withS s x.1 false)) = some (sC (withS s x.1 false)) := fun h => by unfold withS; generalize offs _ 9 0 = s3; simp [sC, cellsW, cellsK, afreezeL, afreeze, stS]
      generalize withS s x.1 false = s4 at *
      (sym => simp [Qb,Qc,Qd,Qe,Qi,Qj,Qm,Qn,Qo,Qr,Qt,Qv,Qw,Qx,Q1,Q4,Q5,Xd,Xp,Xw,Xx,Yj,Yr,Yt,Yu,Yv,Y1,Y6,Y7,Y8,Y9,Za,Zb,Zc,Zd,Ze,Zg,Zh,Zi,Zj,Zk,Zl,Zm,Zn,Zo,Zr,Zs,Zt,Zu,Zv,Zw,Zy,Z0,Z1,Z3,Jj,Jk,Jl,Jr,Jv,Jx,J1,J2,K8,Ue,Uf,Ug,Ul,V3,V6,V9,Wd,We,Wg,Wh,Wi,Wj,Wp,Wq,Hh,Hi,Hk,Hl,Ho,Hp,Hq,Hr,Hs,Ht,Hu,Hv,Hw,No,Nw,Nx,N0,Be,q35R0.eq_1,q35R1.eq_1,q35R2.eq_1,q35R3.eq_1,q35R4.eq_1,c_session_Join.eq_1,hM,hs,hJ,he,hW,a1,a2,a3,a4,a5,d1,d2,d3,d4])
    · rw [if_neg he]
      have hW := fun L => withE_P G s L false x.2 he
      have d1 := sC_len zS
      have d2 := sC_st zS
      have d3 := sC_all zS
      have d4 : ∀ h, afreezeL h (sC zS) = some (sC zS) := fun h => by simp [sC, cellsW, cellsK, afreezeL, afreeze, zS]
      clear z
      generalize zS = z4 at *
      (sym => simp [Qb,Qc,Qd,Qe,Qi,Qj,Qm,Qn,Qo,Qr,Qt,Qv,Qw,Qx,Q1,Q4,Q5,Xd,Xp,Xw,Xx,Yj,Yr,Yt,Yu,Yv,Y1,Y6,Y7,Y8,Y9,Za,Zb,Zc,Zd,Ze,Zg,Zh,Zi,Zj,Zk,Zl,Zm,Zn,Zo,Zr,Zs,Zt,Zu,Zv,Zw,Zy,Z0,Z1,Z3,Jj,Jk,Jl,Jr,Jv,Jx,J1,J2,K8,Ue,Uf,Ug,Ul,V3,V6,V9,Wd,We,Wg,Wh,Wi,Wj,Wp,Wq,Hh,Hi,Hk,Hl,Ho,Hp,Hq,Hr,Hs,Ht,Hu,Hv,Hw,No,Nw,Nx,N0,Be,q35R0.eq_1,q35R1.eq_1,q35R2.eq_1,q35R3.eq_1,q35R4.eq_1,c_session_Join.eq_1,hM,hs,hJ,hW,a1,a2,a3,a4,a5,d1,d2,d3,d4])
theorem leaveM_le (l : List (Int × Int)) (id : Int) : (leaveM l id).1.length ≤ 1000 := by
  have := withM_le l id 0
  unfold leaveM
  split
  · split
    · simp only; omega
    · simp
  · simp
theorem leave30_P (s : Ses) (h : okS s) (id : Int) : aP G FT n_session_Leave [.agg (sC s), .int .i64 id] = some (.tup [.agg (sC (rosS s (leaveM s.mem id)).1), .int .i64 (rosS s (leaveM s.mem id)).2]) := by
  have hM := smay30_P G s h
  have hJ := fun b f => leave_P G s.mem b f id (by have := h.1; omega)
  have hle := leaveM_le s.mem id
  have a1 := sC_len s
  have a2 := sC_st s
  have a3 := sC_all s
  have a4 := sC_v s
  have a5 := sC_0 s
  have z : sC zS = (.data false 2 [] false :: .int .i64 0 :: .data false 1 [] false :: .data false 3 [] false :: .int .i64 0 :: .int .i64 0 :: .int .i64 0 :: .int .i64 0 :: .int .i64 0 :: .int .i64 0 :: .int .i64 0 :: .int .i64 0 :: .int .i64 0 :: .int .i64 0 :: .int .i64 0 :: .int .i64 0 :: .int .i64 0 :: .int .i64 0 :: .int .i64 0 :: .int .i64 0 :: .int .i64 0 :: .int .i64 0 :: .int .i64 0 :: .int .i64 0 :: .int .i64 0 :: .int .i64 0 :: .int .i64 0 :: .int .i64 0 :: .int .i64 0 :: .int .i64 0 :: .int .i64 0 :: .int .i64 0 :: .int .i64 0 :: []) := rfl
  generalize leaveM s.mem id = x at *
  unfold aP rosS
  rw [run_session_Leave]
  cases hs : sesB s with
  | false =>
    rw [if_neg (by simp)]
    simp only [z]
    (sym => simp [Qb,Qc,Qd,Qe,Qi,Qj,Qm,Qn,Qo,Qr,Qt,Qv,Qw,Qx,Q1,Q4,Q5,Xd,Xp,Xw,Xx,Yj,Yr,Yt,Yu,Yv,Y1,Y6,Y7,Y8,Y9,Za,Zb,Zc,Zd,Ze,Zg,Zh,Zi,Zj,Zk,Zl,Zm,Zn,Zo,Zr,Zs,Zt,Zu,Zv,Zw,Zy,Z0,Z1,Z3,Jj,Jk,Jl,Jr,Jv,Jx,J1,J2,K8,Ue,Uf,Ug,Ul,V3,V6,V9,Wd,We,Wg,Wh,Wi,Wj,Wp,Wq,Hh,Hi,Hk,Hl,Ho,Hp,Hq,Hr,Hs,Ht,Hu,Hv,Hw,No,Nw,Nx,N0,Be,q36R0.eq_1,q36R1.eq_1,q36R2.eq_1,q36R3.eq_1,q36R4.eq_1,c_session_Leave.eq_1,hM,hs,a1,a2,a3,a4])
  | true =>
    rw [if_pos rfl]
    by_cases he : x.2 = 0
    · rw [if_pos he]
      have hW := with30_P G s h x.1 false hle
      have d1 := sC_len (withS s x.1 false)
      have d2 := sC_st (withS s x.1 false)
      have d3 := sC_all (withS s x.1 false)
      have d4 : ∀ h, afreezeL h (sC (withS s x.1 false)) = some (sC (withS s x.1 false)) := fun h => by unfold withS; generalize offs _ 9 0 = s3; simp [sC, cellsW, cellsK, afreezeL, afreeze, stS]
      generalize withS s x.1 false = s4 at *
      (sym => simp [Qb,Qc,Qd,Qe,Qi,Qj,Qm,Qn,Qo,Qr,Qt,Qv,Qw,Qx,Q1,Q4,Q5,Xd,Xp,Xw,Xx,Yj,Yr,Yt,Yu,Yv,Y1,Y6,Y7,Y8,Y9,Za,Zb,Zc,Zd,Ze,Zg,Zh,Zi,Zj,Zk,Zl,Zm,Zn,Zo,Zr,Zs,Zt,Zu,Zv,Zw,Zy,Z0,Z1,Z3,Jj,Jk,Jl,Jr,Jv,Jx,J1,J2,K8,Ue,Uf,Ug,Ul,V3,V6,V9,Wd,We,Wg,Wh,Wi,Wj,Wp,Wq,Hh,Hi,Hk,Hl,Ho,Hp,Hq,Hr,Hs,Ht,Hu,Hv,Hw,No,Nw,Nx,N0,Be,q36R0.eq_1,q36R1.eq_1,q36R2.eq_1,q36R3.eq_1,q36R4.eq_1,c_session_Leave.eq_1,hM,hs,hJ,he,hW,a1,a2,a3,a4,a5,d1,d2,d3,d4])
    · rw [if_neg he]
      have hW := fun L => withE_P G s L false x.2 he
      have d1 := sC_len zS
      have d2 := sC_st zS
      have d3 := sC_all zS
      have d4 : ∀ h, afreezeL h (sC zS) = some (sC zS) := fun h => by simp [sC, cellsW, cellsK, afreezeL, afreeze, zS]
      clear z
      generalize zS = z4 at *
      (sym => simp [Qb,Qc,Qd,Qe,Qi,Qj,Qm,Qn,Qo,Qr,Qt,Qv,Qw,Qx,Q1,Q4,Q5,Xd,Xp,Xw,Xx,Yj,Yr,Yt,Yu,Yv,Y1,Y6,Y7,Y8,Y9,Za,Zb,Zc,Zd,Ze,Zg,Zh,Zi,Zj,Zk,Zl,Zm,Zn,Zo,Zr,Zs,Zt,Zu,Zv,Zw,Zy,Z0,Z1,Z3,Jj,Jk,Jl,Jr,Jv,Jx,J1,J2,K8,Ue,Uf,Ug,Ul,V3,V6,V9,Wd,We,Wg,Wh,Wi,Wj,Wp,Wq,Hh,Hi,Hk,Hl,Ho,Hp,Hq,Hr,Hs,Ht,Hu,Hv,Hw,No,Nw,Nx,N0,Be,q36R0.eq_1,q36R1.eq_1,q36R2.eq_1,q36R3.eq_1,q36R4.eq_1,c_session_Leave.eq_1,hM,hs,hJ,hW,a1,a2,a3,a4,a5,d1,d2,d3,d4])
theorem changeM_le (l : List (Int × Int)) (id r : Int) : (changeM l id r).1.length ≤ 1000 := by
  have := withM_le l id r
  unfold changeM
  split
  · split
    · simp only; omega
    · simp
  · simp
theorem change30_P (s : Ses) (h : okS s) (id r : Int) : aP G FT n_session_Change [.agg (sC s), .int .i64 id, .int .i64 r] = some (.tup [.agg (sC (rosS s (changeM s.mem id r)).1), .int .i64 (rosS s (changeM s.mem id r)).2]) := by
  have hM := smay30_P G s h
  have hJ := fun b f => change_P G s.mem b f id r (by have := h.1; omega)
  have hle := changeM_le s.mem id r
  have a1 := sC_len s
  have a2 := sC_st s
  have a3 := sC_all s
  have a4 := sC_v s
  have a5 := sC_0 s
  have z : sC zS = (.data false 2 [] false :: .int .i64 0 :: .data false 1 [] false :: .data false 3 [] false :: .int .i64 0 :: .int .i64 0 :: .int .i64 0 :: .int .i64 0 :: .int .i64 0 :: .int .i64 0 :: .int .i64 0 :: .int .i64 0 :: .int .i64 0 :: .int .i64 0 :: .int .i64 0 :: .int .i64 0 :: .int .i64 0 :: .int .i64 0 :: .int .i64 0 :: .int .i64 0 :: .int .i64 0 :: .int .i64 0 :: .int .i64 0 :: .int .i64 0 :: .int .i64 0 :: .int .i64 0 :: .int .i64 0 :: .int .i64 0 :: .int .i64 0 :: .int .i64 0 :: .int .i64 0 :: .int .i64 0 :: .int .i64 0 :: []) := rfl
  generalize changeM s.mem id r = x at *
  unfold aP rosS
  rw [run_session_Change]
  cases hs : sesB s with
  | false =>
    rw [if_neg (by simp)]
    simp only [z]
    (sym => simp [Qb,Qc,Qd,Qe,Qi,Qj,Qm,Qn,Qo,Qr,Qt,Qv,Qw,Qx,Q1,Q4,Q5,Xd,Xp,Xw,Xx,Yj,Yr,Yt,Yu,Yv,Y1,Y6,Y7,Y8,Y9,Za,Zb,Zc,Zd,Ze,Zg,Zh,Zi,Zj,Zk,Zl,Zm,Zn,Zo,Zr,Zs,Zt,Zu,Zv,Zw,Zy,Z0,Z1,Z3,Jj,Jk,Jl,Jr,Jv,Jx,J1,J2,K8,Ue,Uf,Ug,Ul,V3,V6,V9,Wd,We,Wg,Wh,Wi,Wj,Wp,Wq,Hh,Hi,Hk,Hl,Ho,Hp,Hq,Hr,Hs,Ht,Hu,Hv,Hw,No,Nw,Nx,N0,Be,q33R0.eq_1,q33R1.eq_1,q33R2.eq_1,q33R3.eq_1,q33R4.eq_1,c_session_Change.eq_1,hM,hs,a1,a2,a3,a4])
  | true =>
    rw [if_pos rfl]
    by_cases he : x.2 = 0
    · rw [if_pos he]
      have hW := with30_P G s h x.1 false hle
      have d1 := sC_len (withS s x.1 false)
      have d2 := sC_st (withS s x.1 false)
      have d3 := sC_all (withS s x.1 false)
      have d4 : ∀ h, afreezeL h (sC (withS s x.1 false)) = some (sC (withS s x.1 false)) := fun h => by unfold withS; generalize offs _ 9 0 = s3; simp [sC, cellsW, cellsK, afreezeL, afreeze, stS]
      generalize withS s x.1 false = s4 at *
      (sym => simp [Qb,Qc,Qd,Qe,Qi,Qj,Qm,Qn,Qo,Qr,Qt,Qv,Qw,Qx,Q1,Q4,Q5,Xd,Xp,Xw,Xx,Yj,Yr,Yt,Yu,Yv,Y1,Y6,Y7,Y8,Y9,Za,Zb,Zc,Zd,Ze,Zg,Zh,Zi,Zj,Zk,Zl,Zm,Zn,Zo,Zr,Zs,Zt,Zu,Zv,Zw,Zy,Z0,Z1,Z3,Jj,Jk,Jl,Jr,Jv,Jx,J1,J2,K8,Ue,Uf,Ug,Ul,V3,V6,V9,Wd,We,Wg,Wh,Wi,Wj,Wp,Wq,Hh,Hi,Hk,Hl,Ho,Hp,Hq,Hr,Hs,Ht,Hu,Hv,Hw,No,Nw,Nx,N0,Be,q33R0.eq_1,q33R1.eq_1,q33R2.eq_1,q33R3.eq_1,q33R4.eq_1,c_session_Change.eq_1,hM,hs,hJ,he,hW,a1,a2,a3,a4,a5,d1,d2,d3,d4])
    · rw [if_neg he]
      have hW := fun L => withE_P G s L false x.2 he
      have d1 := sC_len zS
      have d2 := sC_st zS
      have d3 := sC_all zS
      have d4 : ∀ h, afreezeL h (sC zS) = some (sC zS) := fun h => by simp [sC, cellsW, cellsK, afreezeL, afreeze, zS]
      clear z
      generalize zS = z4 at *
      (sym => simp [Qb,Qc,Qd,Qe,Qi,Qj,Qm,Qn,Qo,Qr,Qt,Qv,Qw,Qx,Q1,Q4,Q5,Xd,Xp,Xw,Xx,Yj,Yr,Yt,Yu,Yv,Y1,Y6,Y7,Y8,Y9,Za,Zb,Zc,Zd,Ze,Zg,Zh,Zi,Zj,Zk,Zl,Zm,Zn,Zo,Zr,Zs,Zt,Zu,Zv,Zw,Zy,Z0,Z1,Z3,Jj,Jk,Jl,Jr,Jv,Jx,J1,J2,K8,Ue,Uf,Ug,Ul,V3,V6,V9,Wd,We,Wg,Wh,Wi,Wj,Wp,Wq,Hh,Hi,Hk,Hl,Ho,Hp,Hq,Hr,Hs,Ht,Hu,Hv,Hw,No,Nw,Nx,N0,Be,q33R0.eq_1,q33R1.eq_1,q33R2.eq_1,q33R3.eq_1,q33R4.eq_1,c_session_Change.eq_1,hM,hs,hJ,hW,a1,a2,a3,a4,a5,d1,d2,d3,d4])
end Go.Proofs.Ythcnhibjddomdaa
