/- Sessions: May. Conditions: as each statement says. -/
import Derived.Test.YthcnhibjddomdaaGreatSe4
set_option linter.unusedVariables false
set_option linter.unusedSimpArgs false
set_option linter.unusedSectionVars false
set_option maxRecDepth 20000
set_option maxHeartbeats 8000000
namespace Go.Proofs.YthcnhibjddomdaaGreat
open Go
variable (G : Nat → Option (List AV))
def okS (s : Ses) : Prop := s.mem.length ≤ 1000 ∧ s.tq.length ≤ 1000 ∧ okL s.q
def sizB (s : Ses) : Bool := decide (1 ≤ s.r) && decide (s.r ≤ 24) && decide (1 ≤ s.c) && decide (s.c ≤ 40)
/-- May a session be? -/
def sesB (s : Ses) : Bool :=
  mayM s.mem && mayT s.h s.tq && mayQ 0 s.q && mayW s.w && sizB s && (decide (s.h = 0) || wrB s.mem s.h) && !(s.tq.any fun id => !wrB s.mem id) && tkFrom s 9 0 && !(s.q.any (outB s))
theorem smay30_P (s : Ses) (h : okS s) : aP G FT n_session_May [.agg (sC s)] = some (.bool (sesB s)) := by
  obtain ⟨hl1, hl2, hl3⟩ := h
  have hl : s.mem.length < 1000000 := by omega
  have hM := fun b f => smay_P G s.mem b f hl
  have hT := fun b f => may_P G s.h s.tq b f hl2
  have hQ := fun b f => qmay_P G s.q hl3 b f
  have hW := sMay_P G s.w
  have hWr := writes_P G s s.h hl
  have hI := fun b f => cont_ints G s.tq b f n_session_May_1 [] [.ptr 0 0 0 0] (fun id => !wrB s.mem id) (sH s) (sH_closed s) (by simp [AV.idsL, AV.ids, sH]) (by omega) (fun x => may1_ses G s hl x)
  have hP := fun b f => cont_pcs G s.q b f n_session_May_2 [] [.ptr 0 0 0 0] (outB s) (sH s) (sH_closed s) (by simp [AV.idsL, AV.ids, sH]) (by have := hl3.1; omega) (fun x => Classical.choose (may2_ses G s hl x)) (fun x => Classical.choose_spec (may2_ses G s hl x))
  obtain ⟨e, hP⟩ := hP false s.f3
  obtain ⟨R, k1, k2⟩ := may_ses_loop G s hl 9 0 (by omega)
  have e0 := sC_0 s
  have e1 := sC_1 s
  have e2 := sC_2 s
  have e3 := sC_3 s
  have e4 := sC_len s
  have e5 := sC_all s
  have e6 := sC_ids s
  have e7 := sC_st s
  have e8 := sC_v s
  have e9 := sC_tk s
  have f0 := sC_w s
  have f1 := sC_k s
  have f2 := sC_22 s
  have f3 := sC_23 s
  have f4 := cK_ids s.k
  have f5 := cK_len s.k
  have f6 := cK_ren s.k
  have f7 := cW_len s.w
  have f8 := cW_v s.w
  simp only [Int.natCast_zero] at k1
  have k1 := k1 ⟨[(1, .ptr 0 0 0 0), (67, .agg (cellsK s.k)), (68, .int .i64 0)], [⟨33, 0, true, [sC s]⟩]⟩ (by (sym => simp [Qb,Qc,Qd,Qe,Qf,Qg,Qi,Qj,Qm,Qn,Qo,Qr,Qt,Qu,Qw,Q4,Xa,Xd,Xj,Xp,X9,Ya,Yc,Yj,Yr,Yt,Yu,Yv,Y1,Y5,Y7,Y9,Za,Zb,Zc,Ze,Zg,Zh,Zi,Zj,Zk,Zl,Zm,Zn,Zo,Zq,Zr,Zs,Zt,Zu,Zv,Zw,Zx,Zy,Zz,Z0,Z3,Ja,Jb,Jj,Jk,Jl,Jn,Jp,Jq,Jr,Jv,Jx,Ut,Uu,Ux,U4,U5,U7,U8,Vb,Vk,Vm,Vo,Vp,Vq,Vr,Vs,Vt,Vu,Vv,Vw,Vx,Vy,Vz,V0,V3,V6,V9,Wd,We,Wk,Hh,Hp,Hs,Hu,Hv,Hw,H1,H5,H6,Ne,Nl,Nm,No,Nw,Nx,Be,e6,f4,f6]))
  unfold sH at hI hP
  unfold aP
  rw [run_session_May]
  cases h1 : mayM s.mem with
  | false => simp only [sesB, h1, Bool.false_and]; (sym => simp [Qb,Qc,Qd,Qe,Qf,Qg,Qi,Qj,Qm,Qn,Qo,Qr,Qt,Qu,Qw,Q4,Xa,Xd,Xj,Xp,X9,Ya,Yc,Yj,Yr,Yt,Yu,Yv,Y1,Y5,Y7,Y9,Za,Zb,Zc,Ze,Zg,Zh,Zi,Zj,Zk,Zl,Zm,Zn,Zo,Zq,Zr,Zs,Zt,Zu,Zv,Zw,Zx,Zy,Zz,Z0,Z3,Ja,Jb,Jj,Jk,Jl,Jn,Jp,Jq,Jr,Jv,Jx,Ut,Uu,Ux,U4,U5,U7,U8,Vb,Vk,Vm,Vo,Vp,Vq,Vr,Vs,Vt,Vu,Vv,Vw,Vx,Vy,Vz,V0,V3,V6,V9,Wd,We,Wk,Hh,Hp,Hs,Hu,Hv,Hw,H1,H5,H6,Ne,Nl,Nm,No,Nw,Nx,Be,q71R0.eq_1,q71R1.eq_1,q71R2.eq_1,q71R3.eq_1,q71R4.eq_1,q71R5.eq_1,q71R6.eq_1,q71R7.eq_1,q71R8.eq_1,q71R9.eq_1,q71R10.eq_1,q71R11.eq_1,q71R12.eq_1,q71R13.eq_1,q71R14.eq_1,c_session_May.eq_1,hM,h1,e0,e4,e5,e7])
  | true =>
  cases h2 : mayT s.h s.tq with
  | false => simp only [sesB, h1, h2, Bool.false_and, Bool.true_and]; (sym => simp [Qb,Qc,Qd,Qe,Qf,Qg,Qi,Qj,Qm,Qn,Qo,Qr,Qt,Qu,Qw,Q4,Xa,Xd,Xj,Xp,X9,Ya,Yc,Yj,Yr,Yt,Yu,Yv,Y1,Y5,Y7,Y9,Za,Zb,Zc,Ze,Zg,Zh,Zi,Zj,Zk,Zl,Zm,Zn,Zo,Zq,Zr,Zs,Zt,Zu,Zv,Zw,Zx,Zy,Zz,Z0,Z3,Ja,Jb,Jj,Jk,Jl,Jn,Jp,Jq,Jr,Jv,Jx,Ut,Uu,Ux,U4,U5,U7,U8,Vb,Vk,Vm,Vo,Vp,Vq,Vr,Vs,Vt,Vu,Vv,Vw,Vx,Vy,Vz,V0,V3,V6,V9,Wd,We,Wk,Hh,Hp,Hs,Hu,Hv,Hw,H1,H5,H6,Ne,Nl,Nm,No,Nw,Nx,Be,q71R0.eq_1,q71R1.eq_1,q71R2.eq_1,q71R3.eq_1,q71R4.eq_1,q71R5.eq_1,q71R6.eq_1,q71R7.eq_1,q71R8.eq_1,q71R9.eq_1,q71R10.eq_1,q71R11.eq_1,q71R12.eq_1,q71R13.eq_1,q71R14.eq_1,c_session_May.eq_1,hM,h1,hT,h2,e0,e4,e5,e7,e9])
  | true =>
  cases h3 : mayQ 0 s.q with
  | false => simp only [sesB, h1, h2, h3, Bool.false_and, Bool.true_and]; (sym => simp [Qb,Qc,Qd,Qe,Qf,Qg,Qi,Qj,Qm,Qn,Qo,Qr,Qt,Qu,Qw,Q4,Xa,Xd,Xj,Xp,X9,Ya,Yc,Yj,Yr,Yt,Yu,Yv,Y1,Y5,Y7,Y9,Za,Zb,Zc,Ze,Zg,Zh,Zi,Zj,Zk,Zl,Zm,Zn,Zo,Zq,Zr,Zs,Zt,Zu,Zv,Zw,Zx,Zy,Zz,Z0,Z3,Ja,Jb,Jj,Jk,Jl,Jn,Jp,Jq,Jr,Jv,Jx,Ut,Uu,Ux,U4,U5,U7,U8,Vb,Vk,Vm,Vo,Vp,Vq,Vr,Vs,Vt,Vu,Vv,Vw,Vx,Vy,Vz,V0,V3,V6,V9,Wd,We,Wk,Hh,Hp,Hs,Hu,Hv,Hw,H1,H5,H6,Ne,Nl,Nm,No,Nw,Nx,Be,q71R0.eq_1,q71R1.eq_1,q71R2.eq_1,q71R3.eq_1,q71R4.eq_1,q71R5.eq_1,q71R6.eq_1,q71R7.eq_1,q71R8.eq_1,q71R9.eq_1,q71R10.eq_1,q71R11.eq_1,q71R12.eq_1,q71R13.eq_1,q71R14.eq_1,c_session_May.eq_1,hM,h1,hT,h2,hQ,h3,e0,e3,e4,e5,e7,e9])
  | true =>
  cases h4 : mayW s.w with
  | false => simp only [sesB, h1, h2, h3, h4, Bool.false_and, Bool.true_and]; (sym => simp [Qb,Qc,Qd,Qe,Qf,Qg,Qi,Qj,Qm,Qn,Qo,Qr,Qt,Qu,Qw,Q4,Xa,Xd,Xj,Xp,X9,Ya,Yc,Yj,Yr,Yt,Yu,Yv,Y1,Y5,Y7,Y9,Za,Zb,Zc,Ze,Zg,Zh,Zi,Zj,Zk,Zl,Zm,Zn,Zo,Zq,Zr,Zs,Zt,Zu,Zv,Zw,Zx,Zy,Zz,Z0,Z3,Ja,Jb,Jj,Jk,Jl,Jn,Jp,Jq,Jr,Jv,Jx,Ut,Uu,Ux,U4,U5,U7,U8,Vb,Vk,Vm,Vo,Vp,Vq,Vr,Vs,Vt,Vu,Vv,Vw,Vx,Vy,Vz,V0,V3,V6,V9,Wd,We,Wk,Hh,Hp,Hs,Hu,Hv,Hw,H1,H5,H6,Ne,Nl,Nm,No,Nw,Nx,Be,q71R0.eq_1,q71R1.eq_1,q71R2.eq_1,q71R3.eq_1,q71R4.eq_1,q71R5.eq_1,q71R6.eq_1,q71R7.eq_1,q71R8.eq_1,q71R9.eq_1,q71R10.eq_1,q71R11.eq_1,q71R12.eq_1,q71R13.eq_1,q71R14.eq_1,c_session_May.eq_1,hM,h1,hT,h2,hQ,h3,hW,h4,f0,f8,e0,e3,e4,e5,e7,e9])
  | true =>
  have go : sesB s = (sizB s && (decide (s.h = 0) || wrB s.mem s.h) && !(s.tq.any fun id => !wrB s.mem id) && tkFrom s 9 0 && !(s.q.any (outB s))) := by simp only [sesB, h1, h2, h3, h4, Bool.true_and]
  rw [go]
  by_cases r1 : s.r < 1
  · have hs : sizB s = false := by simp [sizB]; omega
    simp only [hs, Bool.false_and]
    (sym => simp [Qb,Qc,Qd,Qe,Qf,Qg,Qi,Qj,Qm,Qn,Qo,Qr,Qt,Qu,Qw,Q4,Xa,Xd,Xj,Xp,X9,Ya,Yc,Yj,Yr,Yt,Yu,Yv,Y1,Y5,Y7,Y9,Za,Zb,Zc,Ze,Zg,Zh,Zi,Zj,Zk,Zl,Zm,Zn,Zo,Zq,Zr,Zs,Zt,Zu,Zv,Zw,Zx,Zy,Zz,Z0,Z3,Ja,Jb,Jj,Jk,Jl,Jn,Jp,Jq,Jr,Jv,Jx,Ut,Uu,Ux,U4,U5,U7,U8,Vb,Vk,Vm,Vo,Vp,Vq,Vr,Vs,Vt,Vu,Vv,Vw,Vx,Vy,Vz,V0,V3,V6,V9,Wd,We,Wk,Hh,Hp,Hs,Hu,Hv,Hw,H1,H5,H6,Ne,Nl,Nm,No,Nw,Nx,Be,q71R0.eq_1,q71R1.eq_1,q71R2.eq_1,q71R3.eq_1,q71R4.eq_1,q71R5.eq_1,q71R6.eq_1,q71R7.eq_1,q71R8.eq_1,q71R9.eq_1,q71R10.eq_1,q71R11.eq_1,q71R12.eq_1,q71R13.eq_1,q71R14.eq_1,c_session_May.eq_1,hM,h1,hT,h2,hQ,h3,hW,h4,f0,f8,e0,e3,e4,e5,e6,e7,e9,f2,r1])
  by_cases r2 : 24 < s.r
  · have hs : sizB s = false := by simp [sizB]; omega
    simp only [hs, Bool.false_and]
    (sym => simp [Qb,Qc,Qd,Qe,Qf,Qg,Qi,Qj,Qm,Qn,Qo,Qr,Qt,Qu,Qw,Q4,Xa,Xd,Xj,Xp,X9,Ya,Yc,Yj,Yr,Yt,Yu,Yv,Y1,Y5,Y7,Y9,Za,Zb,Zc,Ze,Zg,Zh,Zi,Zj,Zk,Zl,Zm,Zn,Zo,Zq,Zr,Zs,Zt,Zu,Zv,Zw,Zx,Zy,Zz,Z0,Z3,Ja,Jb,Jj,Jk,Jl,Jn,Jp,Jq,Jr,Jv,Jx,Ut,Uu,Ux,U4,U5,U7,U8,Vb,Vk,Vm,Vo,Vp,Vq,Vr,Vs,Vt,Vu,Vv,Vw,Vx,Vy,Vz,V0,V3,V6,V9,Wd,We,Wk,Hh,Hp,Hs,Hu,Hv,Hw,H1,H5,H6,Ne,Nl,Nm,No,Nw,Nx,Be,q71R0.eq_1,q71R1.eq_1,q71R2.eq_1,q71R3.eq_1,q71R4.eq_1,q71R5.eq_1,q71R6.eq_1,q71R7.eq_1,q71R8.eq_1,q71R9.eq_1,q71R10.eq_1,q71R11.eq_1,q71R12.eq_1,q71R13.eq_1,q71R14.eq_1,c_session_May.eq_1,hM,h1,hT,h2,hQ,h3,hW,h4,f0,f8,e0,e3,e4,e5,e6,e7,e9,f2,r1,r2])
  by_cases r3 : s.c < 1
  · have hs : sizB s = false := by simp [sizB]; omega
    simp only [hs, Bool.false_and]
    (sym => simp [Qb,Qc,Qd,Qe,Qf,Qg,Qi,Qj,Qm,Qn,Qo,Qr,Qt,Qu,Qw,Q4,Xa,Xd,Xj,Xp,X9,Ya,Yc,Yj,Yr,Yt,Yu,Yv,Y1,Y5,Y7,Y9,Za,Zb,Zc,Ze,Zg,Zh,Zi,Zj,Zk,Zl,Zm,Zn,Zo,Zq,Zr,Zs,Zt,Zu,Zv,Zw,Zx,Zy,Zz,Z0,Z3,Ja,Jb,Jj,Jk,Jl,Jn,Jp,Jq,Jr,Jv,Jx,Ut,Uu,Ux,U4,U5,U7,U8,Vb,Vk,Vm,Vo,Vp,Vq,Vr,Vs,Vt,Vu,Vv,Vw,Vx,Vy,Vz,V0,V3,V6,V9,Wd,We,Wk,Hh,Hp,Hs,Hu,Hv,Hw,H1,H5,H6,Ne,Nl,Nm,No,Nw,Nx,Be,q71R0.eq_1,q71R1.eq_1,q71R2.eq_1,q71R3.eq_1,q71R4.eq_1,q71R5.eq_1,q71R6.eq_1,q71R7.eq_1,q71R8.eq_1,q71R9.eq_1,q71R10.eq_1,q71R11.eq_1,q71R12.eq_1,q71R13.eq_1,q71R14.eq_1,c_session_May.eq_1,hM,h1,hT,h2,hQ,h3,hW,h4,f0,f8,e0,e3,e4,e5,e6,e7,e9,f2,f3,r1,r2,r3])
  by_cases r4 : 40 < s.c
  · have hs : sizB s = false := by simp [sizB]; omega
    simp only [hs, Bool.false_and]
    (sym => simp [Qb,Qc,Qd,Qe,Qf,Qg,Qi,Qj,Qm,Qn,Qo,Qr,Qt,Qu,Qw,Q4,Xa,Xd,Xj,Xp,X9,Ya,Yc,Yj,Yr,Yt,Yu,Yv,Y1,Y5,Y7,Y9,Za,Zb,Zc,Ze,Zg,Zh,Zi,Zj,Zk,Zl,Zm,Zn,Zo,Zq,Zr,Zs,Zt,Zu,Zv,Zw,Zx,Zy,Zz,Z0,Z3,Ja,Jb,Jj,Jk,Jl,Jn,Jp,Jq,Jr,Jv,Jx,Ut,Uu,Ux,U4,U5,U7,U8,Vb,Vk,Vm,Vo,Vp,Vq,Vr,Vs,Vt,Vu,Vv,Vw,Vx,Vy,Vz,V0,V3,V6,V9,Wd,We,Wk,Hh,Hp,Hs,Hu,Hv,Hw,H1,H5,H6,Ne,Nl,Nm,No,Nw,Nx,Be,q71R0.eq_1,q71R1.eq_1,q71R2.eq_1,q71R3.eq_1,q71R4.eq_1,q71R5.eq_1,q71R6.eq_1,q71R7.eq_1,q71R8.eq_1,q71R9.eq_1,q71R10.eq_1,q71R11.eq_1,q71R12.eq_1,q71R13.eq_1,q71R14.eq_1,c_session_May.eq_1,hM,h1,hT,h2,hQ,h3,hW,h4,f0,f8,e0,e3,e4,e5,e6,e7,e9,f2,f3,r1,r2,r3,r4])
  have hs : sizB s = true := by simp [sizB]; omega
  rw [hs, Bool.true_and]
  have hb : (decide (s.h = 0) || wrB s.mem s.h) = false ∨ (s.h = 0 ∨ s.h ≠ 0 ∧ wrB s.mem s.h = true) := by
    by_cases h0 : s.h = 0
    · exact .inr (.inl h0)
    · cases hw : wrB s.mem s.h with
      | true => exact .inr (.inr ⟨h0, rfl⟩)
      | false => left; simp [h0]
  rcases hb with hb | hb
  · have h0 : ¬ s.h = 0 := by intro h; simp [h] at hb
    have hw : wrB s.mem s.h = false := by simpa [h0] using hb
    simp only [hb, Bool.false_and]
    (sym => simp [Qb,Qc,Qd,Qe,Qf,Qg,Qi,Qj,Qm,Qn,Qo,Qr,Qt,Qu,Qw,Q4,Xa,Xd,Xj,Xp,X9,Ya,Yc,Yj,Yr,Yt,Yu,Yv,Y1,Y5,Y7,Y9,Za,Zb,Zc,Ze,Zg,Zh,Zi,Zj,Zk,Zl,Zm,Zn,Zo,Zq,Zr,Zs,Zt,Zu,Zv,Zw,Zx,Zy,Zz,Z0,Z3,Ja,Jb,Jj,Jk,Jl,Jn,Jp,Jq,Jr,Jv,Jx,Ut,Uu,Ux,U4,U5,U7,U8,Vb,Vk,Vm,Vo,Vp,Vq,Vr,Vs,Vt,Vu,Vv,Vw,Vx,Vy,Vz,V0,V3,V6,V9,Wd,We,Wk,Hh,Hp,Hs,Hu,Hv,Hw,H1,H5,H6,Ne,Nl,Nm,No,Nw,Nx,Be,q71R0.eq_1,q71R1.eq_1,q71R2.eq_1,q71R3.eq_1,q71R4.eq_1,q71R5.eq_1,q71R6.eq_1,q71R7.eq_1,q71R8.eq_1,q71R9.eq_1,q71R10.eq_1,q71R11.eq_1,q71R12.eq_1,q71R13.eq_1,q71R14.eq_1,c_session_May.eq_1,hM,h1,hT,h2,hQ,h3,hW,h4,f0,f8,e0,e1,e3,e4,e5,e6,e7,e8,e9,f2,f3,r1,r2,r3,r4,hWr,h0,hw])
  · have hbt : (decide (s.h = 0) || wrB s.mem s.h) = true := by rcases hb with h | ⟨_, h⟩ <;> simp [h]
    rw [hbt, Bool.true_and]
    cases ha : s.tq.any fun id => !wrB s.mem id with
    | true =>
      simp only [Bool.not_true, Bool.false_and]
      rcases hb with h0 | ⟨h0, hw⟩
      · have hT0 := hT
        have h20 := h2
        rw [h0] at h20
        simp only [h0] at hT0
        (sym => simp [Qb,Qc,Qd,Qe,Qf,Qg,Qi,Qj,Qm,Qn,Qo,Qr,Qt,Qu,Qw,Q4,Xa,Xd,Xj,Xp,X9,Ya,Yc,Yj,Yr,Yt,Yu,Yv,Y1,Y5,Y7,Y9,Za,Zb,Zc,Ze,Zg,Zh,Zi,Zj,Zk,Zl,Zm,Zn,Zo,Zq,Zr,Zs,Zt,Zu,Zv,Zw,Zx,Zy,Zz,Z0,Z3,Ja,Jb,Jj,Jk,Jl,Jn,Jp,Jq,Jr,Jv,Jx,Ut,Uu,Ux,U4,U5,U7,U8,Vb,Vk,Vm,Vo,Vp,Vq,Vr,Vs,Vt,Vu,Vv,Vw,Vx,Vy,Vz,V0,V3,V6,V9,Wd,We,Wk,Hh,Hp,Hs,Hu,Hv,Hw,H1,H5,H6,Ne,Nl,Nm,No,Nw,Nx,Be,q71R0.eq_1,q71R1.eq_1,q71R2.eq_1,q71R3.eq_1,q71R4.eq_1,q71R5.eq_1,q71R6.eq_1,q71R7.eq_1,q71R8.eq_1,q71R9.eq_1,q71R10.eq_1,q71R11.eq_1,q71R12.eq_1,q71R13.eq_1,q71R14.eq_1,c_session_May.eq_1,hM,h1,hT0,h20,hQ,h3,hW,h4,f0,f8,e0,e1,e2,e3,e4,e5,e6,e7,e8,e9,f2,f3,r1,r2,r3,r4,hWr,h0,hI,ha])
      · (sym => simp [Qb,Qc,Qd,Qe,Qf,Qg,Qi,Qj,Qm,Qn,Qo,Qr,Qt,Qu,Qw,Q4,Xa,Xd,Xj,Xp,X9,Ya,Yc,Yj,Yr,Yt,Yu,Yv,Y1,Y5,Y7,Y9,Za,Zb,Zc,Ze,Zg,Zh,Zi,Zj,Zk,Zl,Zm,Zn,Zo,Zq,Zr,Zs,Zt,Zu,Zv,Zw,Zx,Zy,Zz,Z0,Z3,Ja,Jb,Jj,Jk,Jl,Jn,Jp,Jq,Jr,Jv,Jx,Ut,Uu,Ux,U4,U5,U7,U8,Vb,Vk,Vm,Vo,Vp,Vq,Vr,Vs,Vt,Vu,Vv,Vw,Vx,Vy,Vz,V0,V3,V6,V9,Wd,We,Wk,Hh,Hp,Hs,Hu,Hv,Hw,H1,H5,H6,Ne,Nl,Nm,No,Nw,Nx,Be,q71R0.eq_1,q71R1.eq_1,q71R2.eq_1,q71R3.eq_1,q71R4.eq_1,q71R5.eq_1,q71R6.eq_1,q71R7.eq_1,q71R8.eq_1,q71R9.eq_1,q71R10.eq_1,q71R11.eq_1,q71R12.eq_1,q71R13.eq_1,q71R14.eq_1,c_session_May.eq_1,hM,h1,hT,h2,hQ,h3,hW,h4,f0,f8,e0,e1,e2,e3,e4,e5,e6,e7,e8,e9,f2,f3,r1,r2,r3,r4,hWr,h0,hw,hI,ha])
    | false =>
      simp only [Bool.not_false, Bool.true_and]
      rcases k2 with ⟨hk, rfl⟩ | ⟨hk, h', rfl⟩
      · rw [hk, Bool.true_and]
        rcases hb with h0 | ⟨h0, hw⟩
        · have hT0 := hT
          have h20 := h2
          rw [h0] at h20
          simp only [h0] at hT0
          (sym => simp [Qb,Qc,Qd,Qe,Qf,Qg,Qi,Qj,Qm,Qn,Qo,Qr,Qt,Qu,Qw,Q4,Xa,Xd,Xj,Xp,X9,Ya,Yc,Yj,Yr,Yt,Yu,Yv,Y1,Y5,Y7,Y9,Za,Zb,Zc,Ze,Zg,Zh,Zi,Zj,Zk,Zl,Zm,Zn,Zo,Zq,Zr,Zs,Zt,Zu,Zv,Zw,Zx,Zy,Zz,Z0,Z3,Ja,Jb,Jj,Jk,Jl,Jn,Jp,Jq,Jr,Jv,Jx,Ut,Uu,Ux,U4,U5,U7,U8,Vb,Vk,Vm,Vo,Vp,Vq,Vr,Vs,Vt,Vu,Vv,Vw,Vx,Vy,Vz,V0,V3,V6,V9,Wd,We,Wk,Hh,Hp,Hs,Hu,Hv,Hw,H1,H5,H6,Ne,Nl,Nm,No,Nw,Nx,Be,q71R0.eq_1,q71R1.eq_1,q71R2.eq_1,q71R3.eq_1,q71R4.eq_1,q71R5.eq_1,q71R6.eq_1,q71R7.eq_1,q71R8.eq_1,q71R9.eq_1,q71R10.eq_1,q71R11.eq_1,q71R12.eq_1,q71R13.eq_1,q71R14.eq_1,c_session_May.eq_1,hM,h1,hT0,h20,hQ,h3,hW,h4,f0,f1,f5,f8,e0,e1,e2,e3,e4,e5,e6,e7,e8,e9,f2,f3,r1,r2,r3,r4,hWr,h0,hI,ha,k1,hP])
        · (sym => simp [Qb,Qc,Qd,Qe,Qf,Qg,Qi,Qj,Qm,Qn,Qo,Qr,Qt,Qu,Qw,Q4,Xa,Xd,Xj,Xp,X9,Ya,Yc,Yj,Yr,Yt,Yu,Yv,Y1,Y5,Y7,Y9,Za,Zb,Zc,Ze,Zg,Zh,Zi,Zj,Zk,Zl,Zm,Zn,Zo,Zq,Zr,Zs,Zt,Zu,Zv,Zw,Zx,Zy,Zz,Z0,Z3,Ja,Jb,Jj,Jk,Jl,Jn,Jp,Jq,Jr,Jv,Jx,Ut,Uu,Ux,U4,U5,U7,U8,Vb,Vk,Vm,Vo,Vp,Vq,Vr,Vs,Vt,Vu,Vv,Vw,Vx,Vy,Vz,V0,V3,V6,V9,Wd,We,Wk,Hh,Hp,Hs,Hu,Hv,Hw,H1,H5,H6,Ne,Nl,Nm,No,Nw,Nx,Be,q71R0.eq_1,q71R1.eq_1,q71R2.eq_1,q71R3.eq_1,q71R4.eq_1,q71R5.eq_1,q71R6.eq_1,q71R7.eq_1,q71R8.eq_1,q71R9.eq_1,q71R10.eq_1,q71R11.eq_1,q71R12.eq_1,q71R13.eq_1,q71R14.eq_1,c_session_May.eq_1,hM,h1,hT,h2,hQ,h3,hW,h4,f0,f1,f5,f8,e0,e1,e2,e3,e4,e5,e6,e7,e8,e9,f2,f3,r1,r2,r3,r4,hWr,h0,hw,hI,ha,k1,hP])
      · simp only [hk, Bool.false_and]
        rcases hb with h0 | ⟨h0, hw⟩
        · have hT0 := hT
          have h20 := h2
          rw [h0] at h20
          simp only [h0] at hT0
          (sym => simp [Qb,Qc,Qd,Qe,Qf,Qg,Qi,Qj,Qm,Qn,Qo,Qr,Qt,Qu,Qw,Q4,Xa,Xd,Xj,Xp,X9,Ya,Yc,Yj,Yr,Yt,Yu,Yv,Y1,Y5,Y7,Y9,Za,Zb,Zc,Ze,Zg,Zh,Zi,Zj,Zk,Zl,Zm,Zn,Zo,Zq,Zr,Zs,Zt,Zu,Zv,Zw,Zx,Zy,Zz,Z0,Z3,Ja,Jb,Jj,Jk,Jl,Jn,Jp,Jq,Jr,Jv,Jx,Ut,Uu,Ux,U4,U5,U7,U8,Vb,Vk,Vm,Vo,Vp,Vq,Vr,Vs,Vt,Vu,Vv,Vw,Vx,Vy,Vz,V0,V3,V6,V9,Wd,We,Wk,Hh,Hp,Hs,Hu,Hv,Hw,H1,H5,H6,Ne,Nl,Nm,No,Nw,Nx,Be,q71R0.eq_1,q71R1.eq_1,q71R2.eq_1,q71R3.eq_1,q71R4.eq_1,q71R5.eq_1,q71R6.eq_1,q71R7.eq_1,q71R8.eq_1,q71R9.eq_1,q71R10.eq_1,q71R11.eq_1,q71R12.eq_1,q71R13.eq_1,q71R14.eq_1,c_session_May.eq_1,hM,h1,hT0,h20,hQ,h3,hW,h4,f0,f1,f5,f8,e0,e1,e2,e3,e4,e5,e6,e7,e8,e9,f2,f3,r1,r2,r3,r4,hWr,h0,hI,ha,k1])
        · (sym => simp [Qb,Qc,Qd,Qe,Qf,Qg,Qi,Qj,Qm,Qn,Qo,Qr,Qt,Qu,Qw,Q4,Xa,Xd,Xj,Xp,X9,Ya,Yc,Yj,Yr,Yt,Yu,Yv,Y1,Y5,Y7,Y9,Za,Zb,Zc,Ze,Zg,Zh,Zi,Zj,Zk,Zl,Zm,Zn,Zo,Zq,Zr,Zs,Zt,Zu,Zv,Zw,Zx,Zy,Zz,Z0,Z3,Ja,Jb,Jj,Jk,Jl,Jn,Jp,Jq,Jr,Jv,Jx,Ut,Uu,Ux,U4,U5,U7,U8,Vb,Vk,Vm,Vo,Vp,Vq,Vr,Vs,Vt,Vu,Vv,Vw,Vx,Vy,Vz,V0,V3,V6,V9,Wd,We,Wk,Hh,Hp,Hs,Hu,Hv,Hw,H1,H5,H6,Ne,Nl,Nm,No,Nw,Nx,Be,q71R0.eq_1,q71R1.eq_1,q71R2.eq_1,q71R3.eq_1,q71R4.eq_1,q71R5.eq_1,q71R6.eq_1,q71R7.eq_1,q71R8.eq_1,q71R9.eq_1,q71R10.eq_1,q71R11.eq_1,q71R12.eq_1,q71R13.eq_1,q71R14.eq_1,c_session_May.eq_1,hM,h1,hT,h2,hQ,h3,hW,h4,f0,f1,f5,f8,e0,e1,e2,e3,e4,e5,e6,e7,e8,e9,f2,f3,r1,r2,r3,r4,hWr,h0,hw,hI,ha,k1])
end Go.Proofs.YthcnhibjddomdaaGreat
