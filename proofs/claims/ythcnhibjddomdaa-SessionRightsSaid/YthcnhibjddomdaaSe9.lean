/- Sessions: with. Conditions: as each statement says. -/
import Derived.Test.YthcnhibjddomdaaSe8
set_option linter.unusedVariables false
set_option linter.unusedSimpArgs false
set_option linter.unusedSectionVars false
set_option maxRecDepth 20000
set_option maxHeartbeats 8000000
namespace Go.Proofs.Ythcnhibjddomdaa
open Go
variable (G : Nat → Option (List AV))
theorem offs_ok : ∀ (m i : Nat) (s : Ses), okS s → okS (offs s m i)
  | 0, _, _, h => h
  | m + 1, i, s, h => by
    rw [offs]
    refine offs_ok m (i + 1) _ ?_
    split
    · exact h
    · exact ⟨h.1, h.2.1, okL_drop h.2.2 i⟩
theorem okL_pop {q : List Pc} (h : okL q) (n : Int) : okL (popM q n).1 := by
  unfold popM
  split
  · refine ⟨by simp only; rw [cpQ_len, List.length_drop]; have := h.1; omega, fun x hx => ?_⟩
    obtain ⟨y, hy, rfl⟩ := List.mem_map.1 hx
    exact h.2 y (List.mem_of_mem_drop hy)
  · exact ⟨by simp, by simp⟩
/-- With another roster. -/
def memS (s : Ses) (l : List (Int × Int)) (lf : Bool) : Ses := { cpS s with mem := l, f1 := lf }
def withS (s : Ses) (l : List (Int × Int)) (lf : Bool) : Ses := stS (offs (memS s l lf) 9 0)
theorem with30_P (s : Ses) (h : okS s) (l : List (Int × Int)) (lf : Bool) (hl : l.length ≤ 1000) : aP G FT n_session_with [.agg (sC s), .data false 2 (mbs l) lf, .int .i64 0] = some (.tup [.agg (sC (withS s l lf)), .int .i64 0]) := by
  have hC := copied30_P G s h
  have hk : okS (memS s l lf) := ⟨hl, h.2.1, okL_pop h.2.2 (-1)⟩
  have hk2 := offs_ok 9 0 _ hk
  have hS := settled_P G _ hk2
  have m0 : (sC (cpS s)).set 0 (.data false 2 (mbs l) lf) = sC (memS s l lf) := rfl
  have key := fun Z st => with_loop30 G Z lf 9 0 (memS s l lf) (by omega) hk st
  have hm : (memS s l lf).mem = l := rfl
  rw [hm] at key
  simp only [Int.natCast_zero] at key
  have a1 := sC_len s
  have a2 := sC_st s
  have a0 : (sC s).drop 33 = [] := rfl
  have a3 := sC_all s
  have a4 := sC_v s
  have a5 := sC_len (cpS s)
  have a6 := sC_st (cpS s)
  have a7 := sC_all (cpS s)
  unfold withS
  generalize memS s l lf = s2 at *
  have c1 := sC_len (offs s2 9 0)
  have c3 := sC_all (offs s2 9 0)
  have c4 := sC_v (offs s2 9 0)
  generalize offs s2 9 0 = s3 at *
  have d1 := sC_len (stS s3)
  have d2 := sC_st (stS s3)
  have d3 := sC_all (stS s3)
  have d4 : ∀ h, afreezeL h (sC (stS s3)) = some (sC (stS s3)) := fun h => by simp [sC, cellsW, cellsK, afreezeL, afreeze, stS]
  have keyD : ∀ Z, aE G FT 0 lp_session_with_0 ⟨[(1, .data false 2 (mbs l) lf), (3, .ptr 0 0 0 0), (6, .ptr 1 0 0 0), (19, .int .i64 0)], [⟨33, 0, true, [sC s2]⟩, ⟨33, 0, true, [Z]⟩]⟩ = some (.exit 0, ⟨[(1, .data false 2 (mbs l) lf), (3, .ptr 0 0 0 0), (6, .ptr 1 0 0 0), (19, .int .i64 9), (20, .bool false)], [⟨33, 0, true, [sC s3]⟩, ⟨33, 0, true, [Z]⟩]⟩) := fun Z => key Z _ (by (sym => simp [Qb,Qc,Qd,Qe,Qi,Qj,Qm,Qn,Qo,Qr,Qt,Qv,Qw,Q4,Q5,Xa,Xp,X9,Yj,Yr,Yu,Yv,Y1,Y6,Y7,Y8,Y9,Za,Zb,Zc,Zd,Ze,Zg,Zh,Zi,Zj,Zk,Zl,Zm,Zn,Zo,Zr,Zs,Zt,Zu,Zv,Zw,Zx,Zy,Zz,Z0,Z1,Z3,Jj,Jk,Jn,Jq,Jr,Jv,Jx,J1,J2,J6,Ue,Uf,Ug,Ul,Ut,Ux,U0,U4,U5,U7,Vb,Ve,Vk,Vm,Vo,Vp,Vq,Vr,Vs,Vt,Vu,Vv,Vw,Vx,Vy,Vz,V0,V3,Wd,We,Wh,Wi,Wj,Wp,Wq,Hh,Hi,Hk,Hl,Hp,Hr,Hs,Ht,Hu,Hv,Hw,H1,H4,H5,H6,Nl,No,Nu,Nw,Nx,N0,Be]))
  unfold aP
  rw [run_session_with]
  (sym => simp [Qb,Qc,Qd,Qe,Qi,Qj,Qm,Qn,Qo,Qr,Qt,Qv,Qw,Q4,Q5,Xa,Xp,X9,Yj,Yr,Yu,Yv,Y1,Y6,Y7,Y8,Y9,Za,Zb,Zc,Zd,Ze,Zg,Zh,Zi,Zj,Zk,Zl,Zm,Zn,Zo,Zr,Zs,Zt,Zu,Zv,Zw,Zx,Zy,Zz,Z0,Z1,Z3,Jj,Jk,Jn,Jq,Jr,Jv,Jx,J1,J2,J6,Ue,Uf,Ug,Ul,Ut,Ux,U0,U4,U5,U7,Vb,Ve,Vk,Vm,Vo,Vp,Vq,Vr,Vs,Vt,Vu,Vv,Vw,Vx,Vy,Vz,V0,V3,Wd,We,Wh,Wi,Wj,Wp,Wq,Hh,Hi,Hk,Hl,Hp,Hr,Hs,Ht,Hu,Hv,Hw,H1,H4,H5,H6,Nl,No,Nu,Nw,Nx,N0,Be,q51R0.eq_1,q51R1.eq_1,q51R2.eq_1,q51R3.eq_1,q51R4.eq_1,q51R5.eq_1,q51R6.eq_1,q51R7.eq_1,q51R8.eq_1,q51R9.eq_1,q51R10.eq_1,q51R11.eq_1,q51R12.eq_1,q51R13.eq_1,c_session_with.eq_1,hC,hS,m0,keyD,a0,List.append_nil,a1,a2,a3,a4,a5,a6,a7,c1,c3,c4,d1,d2,d3,d4])
end Go.Proofs.Ythcnhibjddomdaa
