/- Sessions: with (in work). Conditions: as each statement says. -/
import Derived.Test.YthcnhibjddomdaaSe7
set_option linter.unusedVariables false
set_option linter.unusedSimpArgs false
set_option linter.unusedSectionVars false
set_option maxRecDepth 20000
set_option maxHeartbeats 8000000
namespace Go.Proofs.Ythcnhibjddomdaa
open Go
variable (G : Nat → Option (List AV))
/-- Nobody's count, window, pieces. -/
def offS (s : Ses) (j : Nat) : Ses := { s with k := fun n => if n = j then 0 else s.k n, w := fun n => if n = j then (0, 0) else s.w n, q := dropM s.q j, f3 := false }
def offK (s : Ses) (j : Nat) : Ses := { s with k := fun n => if n = j then 0 else s.k n }
def offW (s : Ses) (j : Nat) : Ses := { s with w := fun n => if n = j then (0, 0) else s.w n }
theorem offK_eq (s : Ses) {j : Nat} (h : j < 9) : (sC s).set (24 + j) (.int .i64 0) = sC (offK s j) := by
  rcases nine h with rfl | rfl | rfl | rfl | rfl | rfl | rfl | rfl | rfl <;> rfl
theorem offW_eq (s : Ses) {j : Nat} (h : j < 9) : (sC s).take (4 + j * 2) ++ [.int .i64 0, .int .i64 0] ++ (sC s).drop (4 + j * 2 + 2) = sC (offW s j) := by
  rcases nine h with rfl | rfl | rfl | rfl | rfl | rfl | rfl | rfl | rfl <;> rfl
theorem offS_eq (s : Ses) (j : Nat) : (sC (offW (offK s j) j)).set 3 (.data false 3 (pcs (dropM s.q j)) false) = sC (offS s j) := rfl
theorem okL_drop {q : List Pc} (h : okL q) (k : Int) : okL (dropM q k) := by
  unfold dropM
  split
  · refine ⟨by rw [cpQ_len]; exact Nat.le_trans (List.length_filter_le _ _) h.1, fun x hx => ?_⟩
    obtain ⟨y, hy, rfl⟩ := List.mem_map.1 hx
    exact h.2 y (List.mem_filter.1 hy).1
  · exact ⟨by simp, by simp⟩
/-- Those who are not there have nothing. -/
def offs (s : Ses) : Nat → Nat → Ses
  | 0, _ => s
  | m + 1, i => offs (if thereB s.mem i = true then s else offS s i) m (i + 1)
theorem with_loop30 (Z : List AV) (lf : Bool) : ∀ (m i : Nat) (s : Ses), i + m = 9 → okS s → ∀ st, agc 0 [1, 3, 6, 19] st = some ⟨[(1, .data false 2 (mbs s.mem) lf), (3, .ptr 0 0 0 0), (6, .ptr 1 0 0 0), (19, .int .i64 i)], [⟨33, 0, true, [sC s]⟩, ⟨33, 0, true, [Z]⟩]⟩ →
    aE G FT 0 lp_session_with_0 st = some (.exit 0, ⟨[(1, .data false 2 (mbs s.mem) lf), (3, .ptr 0 0 0 0), (6, .ptr 1 0 0 0), (19, .int .i64 9), (20, .bool false)], [⟨33, 0, true, [sC (offs s m i)]⟩, ⟨33, 0, true, [Z]⟩]⟩) := by
  intro m
  induction m with
  | zero =>
    intro i s hi _ st hst
    obtain rfl : i = 9 := by omega
    have e9 : ((9 : Nat) : Int) = 9 := rfl
    rw [lp_session_with_0, y_loop, hst, offs]
    (sym => simp [Qa,Qc,Qd,Qe,Qi,Qj,Qm,Qn,Qo,Qr,Qt,Qv,Qx,Q1,Q4,Q5,Xa,Xd,Xp,Xt,Xw,Xx,X5,Ya,Yr,Yt,Yv,Yz,Y9,Za,Zb,Zc,Zd,Ze,Zg,Zh,Zk,Zl,Zm,Zn,Zo,Zt,Zv,Zw,Zx,Zy,Zz,Z0,Z1,Z3,Jj,Jk,Jm,Jn,Jo,Jr,Js,Ju,Jv,J1,J2,J3,J6,K8,Ue,Uf,Ug,Ut,Ux,U0,U4,U5,U7,Vb,Ve,Vk,Vm,Vo,Vp,Vq,Vr,Vs,Vt,Vu,Vv,Vw,Vx,Vy,Vz,V0,V6,V9,Wd,We,Hh,Hi,Hk,Hl,Hp,Hr,Ht,Hu,Hv,Hw,H1,H4,H5,H6,Nc,Ni,Nk,Nl,Nm,No,Nu,Nw,Nx,Nz,N0,Be,Bh,q51R0.eq_1,q51R1.eq_1,q51R2.eq_1,q51R3.eq_1,q51R4.eq_1,q51R5.eq_1,q51R6.eq_1,q51R7.eq_1,q51R8.eq_1,q51R9.eq_1,q51R10.eq_1,q51R11.eq_1,q51R12.eq_1,q51R13.eq_1,c_session_with.eq_1,c_session_with_L0.eq_1,e9])
  | succ m ih =>
    intro i s hi hk st hst
    have hi9 : i < 9 := by omega
    have hi9' : (i : Int) < 9 := by omega
    have hF := fun b f => find_P G s.mem b f i (by have := hk.1; omega)
    have hD := fun b f => drop_P G s.q b f hk.2.2 i
    have hw := wrap_nat (n := i) (by omega)
    rw [lp_session_with_0] at ih
    rw [lp_session_with_0, y_loop, hst, offs]
    cases ht : thereB s.mem i with
    | true =>
      rw [ht] at hF
      simp only [if_true] at hF
      have ih := ih (i + 1) s (by omega) hk
      rw [if_pos rfl]
      generalize sC (offs s m (i + 1)) = R at ih ⊢
      (sym => simp [Qa,Qc,Qd,Qe,Qi,Qj,Qm,Qn,Qo,Qr,Qt,Qv,Qx,Q1,Q4,Q5,Xa,Xd,Xp,Xt,Xw,Xx,X5,Ya,Yr,Yt,Yv,Yz,Y9,Za,Zb,Zc,Zd,Ze,Zg,Zh,Zk,Zl,Zm,Zn,Zo,Zt,Zv,Zw,Zx,Zy,Zz,Z0,Z1,Z3,Jj,Jk,Jm,Jn,Jo,Jr,Js,Ju,Jv,J1,J2,J3,J6,K8,Ue,Uf,Ug,Ut,Ux,U0,U4,U5,U7,Vb,Ve,Vk,Vm,Vo,Vp,Vq,Vr,Vs,Vt,Vu,Vv,Vw,Vx,Vy,Vz,V0,V6,V9,Wd,We,Hh,Hi,Hk,Hl,Hp,Hr,Ht,Hu,Hv,Hw,H1,H4,H5,H6,Nc,Ni,Nk,Nl,Nm,No,Nu,Nw,Nx,Nz,N0,Be,Bh,q51R0.eq_1,q51R1.eq_1,q51R2.eq_1,q51R3.eq_1,q51R4.eq_1,q51R5.eq_1,q51R6.eq_1,q51R7.eq_1,q51R8.eq_1,q51R9.eq_1,q51R10.eq_1,q51R11.eq_1,q51R12.eq_1,q51R13.eq_1,c_session_with.eq_1,c_session_with_L0.eq_1,hF,hi9',hw]; tactic => (
        refine ih _ ?_
        (sym => simp [Qa,Qc,Qd,Qe,Qi,Qj,Qm,Qn,Qo,Qr,Qt,Qv,Qx,Q1,Q4,Q5,Xa,Xd,Xp,Xt,Xw,Xx,X5,Ya,Yr,Yt,Yv,Yz,Y9,Za,Zb,Zc,Zd,Ze,Zg,Zh,Zk,Zl,Zm,Zn,Zo,Zt,Zv,Zw,Zx,Zy,Zz,Z0,Z1,Z3,Jj,Jk,Jm,Jn,Jo,Jr,Js,Ju,Jv,J1,J2,J3,J6,K8,Ue,Uf,Ug,Ut,Ux,U0,U4,U5,U7,Vb,Ve,Vk,Vm,Vo,Vp,Vq,Vr,Vs,Vt,Vu,Vv,Vw,Vx,Vy,Vz,V0,V6,V9,Wd,We,Hh,Hi,Hk,Hl,Hp,Hr,Ht,Hu,Hv,Hw,H1,H4,H5,H6,Nc,Ni,Nk,Nl,Nm,No,Nu,Nw,Nx,Nz,N0,Be,Bh])))
    | false =>
      rw [ht] at hF
      simp only [Bool.false_eq_true, if_false] at hF
      have ih := ih (i + 1) (offS s i) (by omega) ⟨hk.1, hk.2.1, okL_drop hk.2.2 i⟩
      rw [if_neg (by simp)]
      have hmem : (offS s i).mem = s.mem := rfl
      rw [hmem] at ih
      generalize sC (offs (offS s i) m (i + 1)) = R at ih ⊢
      have e1 := sC_len s
      have k1 := offK_eq s hi9
      have l1 := sC_len (offK s i)
      have k2 := offW_eq (offK s i) hi9
      have l2 := sC_len (offW (offK s i) i)
      have k3 := offS_eq s i
      have b1 : 24 + i < 33 := by omega
      have b2 : 4 + i * 2 + 2 ≤ 33 := by omega
      have q3 : (sC (offW (offK s i) i))[3]? = some (.data false 3 (pcs s.q) s.f3) := rfl
      generalize sC (offW (offK s i) i) = C2 at *
      generalize sC (offK s i) = C1 at *
      (sym => simp [Qa,Qc,Qd,Qe,Qi,Qj,Qm,Qn,Qo,Qr,Qt,Qv,Qx,Q1,Q4,Q5,Xa,Xd,Xp,Xt,Xw,Xx,X5,Ya,Yr,Yt,Yv,Yz,Y9,Za,Zb,Zc,Zd,Ze,Zg,Zh,Zk,Zl,Zm,Zn,Zo,Zt,Zv,Zw,Zx,Zy,Zz,Z0,Z1,Z3,Jj,Jk,Jm,Jn,Jo,Jr,Js,Ju,Jv,J1,J2,J3,J6,K8,Ue,Uf,Ug,Ut,Ux,U0,U4,U5,U7,Vb,Ve,Vk,Vm,Vo,Vp,Vq,Vr,Vs,Vt,Vu,Vv,Vw,Vx,Vy,Vz,V0,V6,V9,Wd,We,Hh,Hi,Hk,Hl,Hp,Hr,Ht,Hu,Hv,Hw,H1,H4,H5,H6,Nc,Ni,Nk,Nl,Nm,No,Nu,Nw,Nx,Nz,N0,Be,Bh,q51R0.eq_1,q51R1.eq_1,q51R2.eq_1,q51R3.eq_1,q51R4.eq_1,q51R5.eq_1,q51R6.eq_1,q51R7.eq_1,q51R8.eq_1,q51R9.eq_1,q51R10.eq_1,q51R11.eq_1,q51R12.eq_1,q51R13.eq_1,c_session_with.eq_1,c_session_with_L0.eq_1,hF,hD,hi9,hi9',hw,e1,k1,b1,b2,l1,k2,l2,k3,q3]; tactic => (
        refine ih _ ?_
        (sym => simp [Qa,Qc,Qd,Qe,Qi,Qj,Qm,Qn,Qo,Qr,Qt,Qv,Qx,Q1,Q4,Q5,Xa,Xd,Xp,Xt,Xw,Xx,X5,Ya,Yr,Yt,Yv,Yz,Y9,Za,Zb,Zc,Zd,Ze,Zg,Zh,Zk,Zl,Zm,Zn,Zo,Zt,Zv,Zw,Zx,Zy,Zz,Z0,Z1,Z3,Jj,Jk,Jm,Jn,Jo,Jr,Js,Ju,Jv,J1,J2,J3,J6,K8,Ue,Uf,Ug,Ut,Ux,U0,U4,U5,U7,Vb,Ve,Vk,Vm,Vo,Vp,Vq,Vr,Vs,Vt,Vu,Vv,Vw,Vx,Vy,Vz,V0,V6,V9,Wd,We,Hh,Hi,Hk,Hl,Hp,Hr,Ht,Hu,Hv,Hw,H1,H4,H5,H6,Nc,Ni,Nk,Nl,Nm,No,Nu,Nw,Nx,Nz,N0,Be,Bh])))
end Go.Proofs.Ythcnhibjddomdaa
