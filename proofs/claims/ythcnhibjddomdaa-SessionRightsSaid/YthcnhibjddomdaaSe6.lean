/- Sessions: a copy. Conditions: as each statement says. -/
import Derived.Test.YthcnhibjddomdaaSe5
set_option linter.unusedVariables false
set_option linter.unusedSimpArgs false
set_option linter.unusedSectionVars false
set_option maxRecDepth 20000
set_option maxHeartbeats 8000000
namespace Go.Proofs.Ythcnhibjddomdaa
open Go
variable (G : Nat → Option (List AV))
def tl (s : Ses) : List AV := cellsW s.w ++ (.int .i64 s.r :: .int .i64 s.c :: cellsK s.k)
theorem sC_eq (s : Ses) : sC s = .data false 2 (mbs s.mem) s.f1 :: .int .i64 s.h :: .data false 1 (ints s.tq) s.f2 :: .data false 3 (pcs s.q) s.f3 :: tl s := rfl
theorem tl_len (s : Ses) : (tl s).length = 29 := rfl
theorem tl_ids (s : Ses) : AV.idsL (tl s) = [] := by simp [tl, cellsW, cellsK, AV.idsL, AV.ids]
theorem tl_st (s : Ses) : AV.stableL (tl s) = true := by simp [tl, cellsW, cellsK, AV.stableL, AV.stable]
theorem tl_v (s : Ses) (h : List ARow) : aviewL h (tl s) = some (tl s) := by simp [tl, cellsW, cellsK, aviewL, aview]
theorem tl_f (s : Ses) (h : List ARow) : afreezeL h (tl s) = some (tl s) := by simp [tl, cellsW, cellsK, afreezeL, afreeze]
theorem tl_ren (s : Ses) (h : List ARow) (lo off : Nat) (o : List Nat) : AV.renL h lo off o (tl s) = tl s := by simp [tl, cellsW, cellsK, AV.renL, AV.ren]
theorem tl_take (s : Ses) : (tl s).take 29 = tl s := rfl
theorem clone_I_run (b f : Bool) (l : List Int) (hl : l.length ≤ 1000000) : aR G FT n_slices_Clone_int [.data b 1 (ints l) f] [] = some (.own 0 1 0 l.length l.length, [⟨1, 1, true, ints l⟩]) := by
  have hx : aR G FT n_slices_Clone_int [.data b 1 (ints l) f] [] = extClone 1 [.data b 1 (ints l) f] [] := by
    unfold aR arunFn
    rfl
  rw [hx]
  simp [extClone, ints_len, hl]
def cpS (s : Ses) : Ses := { s with q := (popM s.q (-1)).1, f1 := false, f2 := false, f3 := false }
theorem copied30_P (s : Ses) (h : okS s) : aP G FT n_session_copied [.agg (sC s)] = some (.agg (sC (cpS s))) := by
  obtain ⟨hl1, hl2, hl3⟩ := h
  have hC := fun b f => clone_M_run G b f s.mem (by omega)
  have hI := fun b f => clone_I_run G b f s.tq (by omega)
  have hP := fun b f => pop_P G s.q b f hl3 (-1) (by omega)
  have t1 := tl_len s
  have t2 := tl_ids s
  have t3 := tl_st s
  have t4 := tl_v s
  have t5 := tl_f s
  have t6 := tl_ren s
  have t7 := tl_take s
  have m1 := mbs_len s.mem
  have m2 := ints_len s.tq
  have k1 : List.take s.mem.length (mbs s.mem) = mbs s.mem := List.take_of_length_le (by omega)
  have k2 : List.take s.tq.length (ints s.tq) = ints s.tq := List.take_of_length_le (by omega)
  have e : sC (cpS s) = .data false 2 (mbs s.mem) false :: .int .i64 s.h :: .data false 1 (ints s.tq) false :: .data false 3 (pcs (popM s.q (-1)).1) false :: tl s := rfl
  rw [e, sC_eq]
  generalize tl s = T at *
  unfold aP
  rw [run_session_copied]
  (sym => simp [Qb,Qd,Qe,Qi,Qj,Qm,Qn,Qo,Qr,Qv,Qw,Q4,Q5,Xp,Xw,Xx,Yj,Yr,Yt,Yu,Yv,Y1,Y5,Y8,Y9,Za,Zb,Zc,Zd,Ze,Zg,Zh,Zi,Zj,Zk,Zl,Zm,Zn,Zo,Zp,Zr,Zs,Zt,Zu,Zv,Zw,Zx,Zy,Zz,Z0,Z1,Z3,Jj,Jk,Jv,Jx,J1,J2,J6,J7,Ue,Uf,Ug,Ul,Uq,Us,U6,Vk,Vm,Vo,Vp,Vq,Vr,Vs,Vt,Vu,Vv,Vw,Vx,V6,V9,Wd,We,Wf,Wg,Wh,Wj,Wq,Wz,W5,W6,W7,Hh,Hi,Hk,Hl,Ho,Hp,Hr,Hs,Ht,Hu,Hv,Hw,Hy,Hz,H5,H6,H8,Ng,Nl,No,Nq,Nt,Nx,Nz,N0,Be,q44R0.eq_1,q44R1.eq_1,q44R2.eq_1,q44R3.eq_1,c_session_copied.eq_1,hC,hI,hP,t1,t2,t3,t4,t5,t6,t7,m1,m2,k1,k2])
end Go.Proofs.Ythcnhibjddomdaa
