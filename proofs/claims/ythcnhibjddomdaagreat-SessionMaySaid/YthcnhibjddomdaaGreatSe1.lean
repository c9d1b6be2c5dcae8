/- Sessions: cells, who may write. Conditions: as each statement says. -/
import Derived.Test.YthcnhibjddomdaaGreatRos4
import Derived.Test.YthcnhibjddomdaaGreatTok4
import Derived.Test.YthcnhibjddomdaaGreatSz2
import Derived.Test.YthcnhibjddomdaaGreatMg1
set_option linter.unusedVariables false
set_option linter.unusedSimpArgs false
set_option linter.unusedSectionVars false
set_option maxRecDepth 20000
set_option maxHeartbeats 4000000
namespace Go.Proofs.YthcnhibjddomdaaGreat
open Go
variable (G : Nat → Option (List AV))
/-- A session: members, token, queue, windows, the screen's rows and columns, counts; whether its slices are told full. -/
structure Ses where
  mem : List (Int × Int)
  h : Int
  tq : List Int
  q : List Pc
  w : Nat → Int × Int
  r : Int
  c : Int
  k : Nat → Int
  f1 : Bool
  f2 : Bool
  f3 : Bool
def cellsK (k : Nat → Int) : List AV := [.int .i64 (k 0), .int .i64 (k 1), .int .i64 (k 2), .int .i64 (k 3), .int .i64 (k 4), .int .i64 (k 5), .int .i64 (k 6), .int .i64 (k 7), .int .i64 (k 8)]
def sC (s : Ses) : List AV := [.data false 2 (mbs s.mem) s.f1, .int .i64 s.h, .data false 1 (ints s.tq) s.f2, .data false 3 (pcs s.q) s.f3] ++ cellsW s.w ++ [.int .i64 s.r, .int .i64 s.c] ++ cellsK s.k
theorem sC_len (s : Ses) : (sC s).length = 33 := rfl
theorem sC_st (s : Ses) : AV.stableL (sC s) = true := by simp [sC, cellsW, cellsK, AV.stableL, AV.stable]
theorem sC_v (s : Ses) (h : List ARow) : aviewL h (sC s) = some (sC s) := by simp [sC, cellsW, cellsK, aviewL, aview]
theorem sC_ids (s : Ses) : AV.idsL (sC s) = [] := by simp [sC, cellsW, cellsK, AV.idsL, AV.ids]
theorem sC_0 (s : Ses) : (sC s)[0]? = some (.data false 2 (mbs s.mem) s.f1) := rfl
theorem sC_1 (s : Ses) : (sC s)[1]? = some (.int .i64 s.h) := rfl
theorem sC_2 (s : Ses) : (sC s)[2]? = some (.data false 1 (ints s.tq) s.f2) := rfl
theorem sC_3 (s : Ses) : (sC s)[3]? = some (.data false 3 (pcs s.q) s.f3) := rfl
theorem sC_22 (s : Ses) : (sC s)[22]? = some (.int .i64 s.r) := rfl
theorem sC_23 (s : Ses) : (sC s)[23]? = some (.int .i64 s.c) := rfl
theorem sC_tk (s : Ses) : ((sC s).drop 1).take 2 = [.int .i64 s.h, .data false 1 (ints s.tq) s.f2] := rfl
theorem sC_w (s : Ses) : ((sC s).drop 4).take 18 = cellsW s.w := rfl
theorem sC_k (s : Ses) : ((sC s).drop 24).take 9 = cellsK s.k := rfl
theorem sC_all (s : Ses) : (sC s).take 33 = sC s := rfl
theorem cK_len (k : Nat → Int) : (cellsK k).length = 9 := rfl
theorem cK_at (k : Nat → Int) {j : Nat} (h : j < 9) : (cellsK k)[j]? = some (.int .i64 (k j)) := by
  rcases nine h with rfl | rfl | rfl | rfl | rfl | rfl | rfl | rfl | rfl <;> rfl
theorem sC_kat (s : Ses) {j : Nat} (h : j < 9) : (sC s)[24 + j]? = some (.int .i64 (s.k j)) := by
  rcases nine h with rfl | rfl | rfl | rfl | rfl | rfl | rfl | rfl | rfl <;> rfl
theorem sC_wat (s : Ses) {j : Nat} (h : j < 9) : ((sC s).drop (4 + j * 2)).take 2 = [.int .i64 (s.w j).1, .int .i64 (s.w j).2] := by
  rcases nine h with rfl | rfl | rfl | rfl | rfl | rfl | rfl | rfl | rfl <;> rfl
/-- May somebody write? -/
def wrB (l : List (Int × Int)) (id : Int) : Bool := thereB l id && decide (roleOf l id = 2)
theorem writes_P (s : Ses) (id : Int) (hl : s.mem.length < 1000000) : aP G FT n_session_writes [.agg (sC s), .int .i64 id] = some (.bool (wrB s.mem id)) := by
  have hF := fun b f => find_P G s.mem b f id hl
  have e0 := sC_0 s
  have e1 := sC_len s
  have e2 := sC_st s
  have e3 := sC_all s
  have e4 := sC_ids s
  unfold aP wrB
  rw [run_session_writes]
  cases ht : thereB s.mem id with
  | false =>
    rw [ht] at hF
    simp only [Bool.false_eq_true, if_false] at hF
    (sym => simp [Qb,Qd,Qe,Qf,Qg,Qi,Qj,Qm,Qn,Qo,Qr,Qt,Qu,Qv,Qw,Q4,Q5,Xa,Xp,Xw,Xx,X8,Yj,Yr,Yt,Yv,Y1,Y5,Y7,Y9,Za,Zb,Zc,Zd,Ze,Zg,Zh,Zi,Zj,Zk,Zl,Zm,Zn,Zo,Zr,Zs,Zt,Zu,Zv,Zw,Zy,Z0,Z1,Z3,Ja,Jj,Jk,Jv,Jx,J1,J2,Ue,Uf,Ug,V6,V9,Wd,We,Wk,Hh,Hi,Hk,Hl,Hp,Hr,Ht,Hu,Hv,Hw,Nl,Nm,No,Nq,Nr,N0,Be,q86R0.eq_1,q86R1.eq_1,q86R2.eq_1,c_session_writes.eq_1,hF,e0,e1,e2,e3,e4])
  | true =>
    rw [ht] at hF
    simp only [if_true] at hF
    by_cases h2 : roleOf s.mem id = 2
    · (sym => simp [Qb,Qd,Qe,Qf,Qg,Qi,Qj,Qm,Qn,Qo,Qr,Qt,Qu,Qv,Qw,Q4,Q5,Xa,Xp,Xw,Xx,X8,Yj,Yr,Yt,Yv,Y1,Y5,Y7,Y9,Za,Zb,Zc,Zd,Ze,Zg,Zh,Zi,Zj,Zk,Zl,Zm,Zn,Zo,Zr,Zs,Zt,Zu,Zv,Zw,Zy,Z0,Z1,Z3,Ja,Jj,Jk,Jv,Jx,J1,J2,Ue,Uf,Ug,V6,V9,Wd,We,Wk,Hh,Hi,Hk,Hl,Hp,Hr,Ht,Hu,Hv,Hw,Nl,Nm,No,Nq,Nr,N0,Be,q86R0.eq_1,q86R1.eq_1,q86R2.eq_1,c_session_writes.eq_1,hF,e0,e1,e2,e3,e4,h2])
    · (sym => simp [Qb,Qd,Qe,Qf,Qg,Qi,Qj,Qm,Qn,Qo,Qr,Qt,Qu,Qv,Qw,Q4,Q5,Xa,Xp,Xw,Xx,X8,Yj,Yr,Yt,Yv,Y1,Y5,Y7,Y9,Za,Zb,Zc,Zd,Ze,Zg,Zh,Zi,Zj,Zk,Zl,Zm,Zn,Zo,Zr,Zs,Zt,Zu,Zv,Zw,Zy,Z0,Z1,Z3,Ja,Jj,Jk,Jv,Jx,J1,J2,Ue,Uf,Ug,V6,V9,Wd,We,Wk,Hh,Hi,Hk,Hl,Hp,Hr,Ht,Hu,Hv,Hw,Nl,Nm,No,Nq,Nr,N0,Be,q86R0.eq_1,q86R1.eq_1,q86R2.eq_1,c_session_writes.eq_1,hF,e0,e1,e2,e3,e4,h2])
end Go.Proofs.YthcnhibjddomdaaGreat
