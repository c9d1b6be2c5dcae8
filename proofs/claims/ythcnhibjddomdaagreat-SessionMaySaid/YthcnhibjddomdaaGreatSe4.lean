/- Sessions: May, the whole. Conditions: as each statement says. -/
import Derived.Test.YthcnhibjddomdaaGreatSe3
set_option linter.unusedVariables false
set_option linter.unusedSimpArgs false
set_option linter.unusedSectionVars false
set_option maxRecDepth 20000
set_option maxHeartbeats 8000000
namespace Go.Proofs.YthcnhibjddomdaaGreat
open Go
variable (G : Nat → Option (List AV))
def tkB (s : Ses) (j : Nat) : Bool := !decide (s.k j < 0) && !decide (1073741824 < s.k j) && (thereB s.mem j || (decide (s.k j = 0) && (decide ((s.w j).1 = 0) && decide ((s.w j).2 = 0))))
def tkFrom (s : Ses) : Nat → Nat → Bool
  | 0, _ => true
  | m + 1, i => tkB s i && tkFrom s m (i + 1)
theorem cK_ids (k : Nat → Int) : AV.idsL (cellsK k) = [] := by simp [cellsK, AV.idsL, AV.ids]
theorem cK_ren (k : Nat → Int) (h : List ARow) (lo off : Nat) (o : List Nat) : AV.renL h lo off o (cellsK k) = cellsK k := by simp [cellsK, AV.renL, AV.ren]
theorem may_ses_loop (s : Ses) (hl : s.mem.length < 1000000) : ∀ (m i : Nat), i + m = 9 → ∃ R,
    (∀ st, agc 0 [1, 67, 68] st = some ⟨[(1, .ptr 0 0 0 0), (67, .agg (cellsK s.k)), (68, .int .i64 i)], [⟨33, 0, true, [sC s]⟩]⟩ → aE G FT 0 lp_session_May_0 st = some R) ∧
    ((tkFrom s m i = true ∧ R = (.exit 0, ⟨[(1, .ptr 0 0 0 0), (67, .agg (cellsK s.k)), (68, .int .i64 9), (69, .bool false)], [⟨33, 0, true, [sC s]⟩]⟩)) ∨
      (tkFrom s m i = false ∧ ∃ h', R = (.ret, ⟨[(2, .bool false)], h'⟩))) := by
  have e0 := sC_0 s
  have e1 := sC_len s
  have e3 := sC_all s
  have e4 := sC_ids s
  have e6 := cK_ids s.k
  have e7 := cK_len s.k
  have e8 := cK_ren s.k
  intro m
  induction m with
  | zero =>
    intro i hi
    obtain rfl : i = 9 := by omega
    have e9 : ((9 : Nat) : Int) = 9 := rfl
    refine ⟨_, fun st hst => ?_, .inl ⟨rfl, rfl⟩⟩
    rw [lp_session_May_0, y_loop, hst]
    (sym => simp [Qa,Qb,Qc,Qd,Qe,Qf,Qg,Qh,Qi,Qj,Qm,Qn,Qo,Qr,Qt,Qu,Qv,Qx,Q1,Q4,Q5,Xa,Xb,Xd,Xp,Xt,Xu,Xw,Xx,X5,X9,Ya,Yc,Yr,Yt,Yu,Yv,Yz,Y9,Za,Zb,Zc,Zd,Ze,Zg,Zh,Zk,Zl,Zm,Zn,Zo,Zt,Zv,Zw,Zx,Zy,Zz,Z0,Z1,Z3,Ja,Jb,Jg,Jj,Jk,Jl,Jm,Jn,Jo,Jp,Jr,Js,Jt,Ju,Jv,J1,J2,Kh,Kk,Kl,Km,K6,K8,Ue,Uf,Ug,Ut,Uu,Ux,U4,U5,U7,U8,Vb,Vk,Vm,Vo,Vp,Vq,Vr,Vs,Vt,Vu,Vv,Vw,Vx,Vy,Vz,V0,V6,V9,Wd,We,Hh,Hi,Hk,Hl,Hp,Hr,Ht,Hu,Hv,Hw,H1,H5,H6,Nc,Ni,Nk,Nl,Nm,No,Nq,Nr,Nw,Nx,Nz,N0,Be,Bh,q71R0.eq_1,q71R1.eq_1,q71R2.eq_1,q71R3.eq_1,q71R4.eq_1,q71R5.eq_1,q71R6.eq_1,q71R7.eq_1,q71R8.eq_1,q71R9.eq_1,q71R10.eq_1,q71R11.eq_1,q71R12.eq_1,q71R13.eq_1,q71R14.eq_1,c_session_May.eq_1,c_session_May_L0.eq_1,e9,e1,e4,e6,e7,e8])
  | succ m ih =>
    intro i hi
    have hi9 : i < 9 := by omega
    have hi9' : (i : Int) < 9 := by omega
    have hw := wrap_nat (n := i) (by omega)
    have hF := fun b f => find_P G s.mem b f i hl
    have hka := cK_at s.k hi9
    have hwa := sC_wat s hi9
    have hb2 : 4 + i * 2 + 2 ≤ 33 := by omega
    rw [lp_session_May_0] at ih ⊢
    rw [tkFrom]
    -- what goes wrong
    have bad : ∀ (x y : Int), tkB s i = false → (∀ st, agc 0 [1, 67, 68] st = some ⟨[(1, .ptr 0 0 0 0), (67, .agg (cellsK s.k)), (68, .int .i64 i)], [⟨33, 0, true, [sC s]⟩]⟩ → aE G FT 0 (.loop [1, 67, 68] c_session_May_L0) st = some (.ret, ⟨[(2, .bool false)], [⟨33, 0, true, [sC s]⟩, ⟨2, 0, true, [[.int .i64 x, .int .i64 y]]⟩]⟩)) →
        ∃ R, (∀ st, agc 0 [1, 67, 68] st = some ⟨[(1, .ptr 0 0 0 0), (67, .agg (cellsK s.k)), (68, .int .i64 i)], [⟨33, 0, true, [sC s]⟩]⟩ → aE G FT 0 (.loop [1, 67, 68] c_session_May_L0) st = some R) ∧
          (((tkB s i && tkFrom s m (i + 1)) = true ∧ R = (.exit 0, ⟨[(1, .ptr 0 0 0 0), (67, .agg (cellsK s.k)), (68, .int .i64 9), (69, .bool false)], [⟨33, 0, true, [sC s]⟩]⟩)) ∨
            ((tkB s i && tkFrom s m (i + 1)) = false ∧ ∃ h', R = (.ret, ⟨[(2, .bool false)], h'⟩))) := fun x y hb h => ⟨_, h, .inr ⟨by rw [hb]; rfl, _, rfl⟩⟩
    have good : tkB s i = true → (∀ R, (∀ st', agc 0 [1, 67, 68] st' = some ⟨[(1, .ptr 0 0 0 0), (67, .agg (cellsK s.k)), (68, .int .i64 ((i + 1 : Nat) : Int))], [⟨33, 0, true, [sC s]⟩]⟩ → aE G FT 0 (.loop [1, 67, 68] c_session_May_L0) st' = R) →
        ∀ st, agc 0 [1, 67, 68] st = some ⟨[(1, .ptr 0 0 0 0), (67, .agg (cellsK s.k)), (68, .int .i64 i)], [⟨33, 0, true, [sC s]⟩]⟩ → aE G FT 0 (.loop [1, 67, 68] c_session_May_L0) st = R) →
        ∃ R, (∀ st, agc 0 [1, 67, 68] st = some ⟨[(1, .ptr 0 0 0 0), (67, .agg (cellsK s.k)), (68, .int .i64 i)], [⟨33, 0, true, [sC s]⟩]⟩ → aE G FT 0 (.loop [1, 67, 68] c_session_May_L0) st = some R) ∧
          (((tkB s i && tkFrom s m (i + 1)) = true ∧ R = (.exit 0, ⟨[(1, .ptr 0 0 0 0), (67, .agg (cellsK s.k)), (68, .int .i64 9), (69, .bool false)], [⟨33, 0, true, [sC s]⟩]⟩)) ∨
            ((tkB s i && tkFrom s m (i + 1)) = false ∧ ∃ h', R = (.ret, ⟨[(2, .bool false)], h'⟩))) := fun hb h => by
      obtain ⟨R, i1, i2⟩ := ih (i + 1) (by omega)
      exact ⟨R, h _ i1, by rw [hb, Bool.true_and]; exact i2⟩
    by_cases k0 : s.k i < 0
    · refine bad (if thereB s.mem i = true then (i : Int) else 0) (if thereB s.mem i = true then roleOf s.mem i else 0) (by simp [tkB, k0]) fun st hst => ?_
      rw [y_loop, hst]
      (sym => simp [Qa,Qb,Qc,Qd,Qe,Qf,Qg,Qh,Qi,Qj,Qm,Qn,Qo,Qr,Qt,Qu,Qv,Qx,Q1,Q4,Q5,Xa,Xb,Xd,Xp,Xt,Xu,Xw,Xx,X5,X9,Ya,Yc,Yr,Yt,Yu,Yv,Yz,Y9,Za,Zb,Zc,Zd,Ze,Zg,Zh,Zk,Zl,Zm,Zn,Zo,Zt,Zv,Zw,Zx,Zy,Zz,Z0,Z1,Z3,Ja,Jb,Jg,Jj,Jk,Jl,Jm,Jn,Jo,Jp,Jr,Js,Jt,Ju,Jv,J1,J2,Kh,Kk,Kl,Km,K6,K8,Ue,Uf,Ug,Ut,Uu,Ux,U4,U5,U7,U8,Vb,Vk,Vm,Vo,Vp,Vq,Vr,Vs,Vt,Vu,Vv,Vw,Vx,Vy,Vz,V0,V6,V9,Wd,We,Hh,Hi,Hk,Hl,Hp,Hr,Ht,Hu,Hv,Hw,H1,H5,H6,Nc,Ni,Nk,Nl,Nm,No,Nq,Nr,Nw,Nx,Nz,N0,Be,Bh,q71R0.eq_1,q71R1.eq_1,q71R2.eq_1,q71R3.eq_1,q71R4.eq_1,q71R5.eq_1,q71R6.eq_1,q71R7.eq_1,q71R8.eq_1,q71R9.eq_1,q71R10.eq_1,q71R11.eq_1,q71R12.eq_1,q71R13.eq_1,q71R14.eq_1,c_session_May.eq_1,c_session_May_L0.eq_1,hF,e0,e1,e3,e4,e6,e7,e8,hi9,hi9',hka,k0])
    by_cases k1 : 1073741824 < s.k i
    · refine bad (if thereB s.mem i = true then (i : Int) else 0) (if thereB s.mem i = true then roleOf s.mem i else 0) (by simp [tkB, k1]) fun st hst => ?_
      rw [y_loop, hst]
      (sym => simp [Qa,Qb,Qc,Qd,Qe,Qf,Qg,Qh,Qi,Qj,Qm,Qn,Qo,Qr,Qt,Qu,Qv,Qx,Q1,Q4,Q5,Xa,Xb,Xd,Xp,Xt,Xu,Xw,Xx,X5,X9,Ya,Yc,Yr,Yt,Yu,Yv,Yz,Y9,Za,Zb,Zc,Zd,Ze,Zg,Zh,Zk,Zl,Zm,Zn,Zo,Zt,Zv,Zw,Zx,Zy,Zz,Z0,Z1,Z3,Ja,Jb,Jg,Jj,Jk,Jl,Jm,Jn,Jo,Jp,Jr,Js,Jt,Ju,Jv,J1,J2,Kh,Kk,Kl,Km,K6,K8,Ue,Uf,Ug,Ut,Uu,Ux,U4,U5,U7,U8,Vb,Vk,Vm,Vo,Vp,Vq,Vr,Vs,Vt,Vu,Vv,Vw,Vx,Vy,Vz,V0,V6,V9,Wd,We,Hh,Hi,Hk,Hl,Hp,Hr,Ht,Hu,Hv,Hw,H1,H5,H6,Nc,Ni,Nk,Nl,Nm,No,Nq,Nr,Nw,Nx,Nz,N0,Be,Bh,q71R0.eq_1,q71R1.eq_1,q71R2.eq_1,q71R3.eq_1,q71R4.eq_1,q71R5.eq_1,q71R6.eq_1,q71R7.eq_1,q71R8.eq_1,q71R9.eq_1,q71R10.eq_1,q71R11.eq_1,q71R12.eq_1,q71R13.eq_1,q71R14.eq_1,c_session_May.eq_1,c_session_May_L0.eq_1,hF,e0,e1,e3,e4,e6,e7,e8,hi9,hi9',hka,k0,k1])
    cases ht : thereB s.mem i with
    | true =>
      rw [ht] at hF
      simp only [if_true] at hF
      refine good (by simp [tkB, k0, k1, ht]) fun R hR st hst => ?_
      rw [y_loop, hst]
      (sym => simp [Qa,Qb,Qc,Qd,Qe,Qf,Qg,Qh,Qi,Qj,Qm,Qn,Qo,Qr,Qt,Qu,Qv,Qx,Q1,Q4,Q5,Xa,Xb,Xd,Xp,Xt,Xu,Xw,Xx,X5,X9,Ya,Yc,Yr,Yt,Yu,Yv,Yz,Y9,Za,Zb,Zc,Zd,Ze,Zg,Zh,Zk,Zl,Zm,Zn,Zo,Zt,Zv,Zw,Zx,Zy,Zz,Z0,Z1,Z3,Ja,Jb,Jg,Jj,Jk,Jl,Jm,Jn,Jo,Jp,Jr,Js,Jt,Ju,Jv,J1,J2,Kh,Kk,Kl,Km,K6,K8,Ue,Uf,Ug,Ut,Uu,Ux,U4,U5,U7,U8,Vb,Vk,Vm,Vo,Vp,Vq,Vr,Vs,Vt,Vu,Vv,Vw,Vx,Vy,Vz,V0,V6,V9,Wd,We,Hh,Hi,Hk,Hl,Hp,Hr,Ht,Hu,Hv,Hw,H1,H5,H6,Nc,Ni,Nk,Nl,Nm,No,Nq,Nr,Nw,Nx,Nz,N0,Be,Bh,q71R0.eq_1,q71R1.eq_1,q71R2.eq_1,q71R3.eq_1,q71R4.eq_1,q71R5.eq_1,q71R6.eq_1,q71R7.eq_1,q71R8.eq_1,q71R9.eq_1,q71R10.eq_1,q71R11.eq_1,q71R12.eq_1,q71R13.eq_1,q71R14.eq_1,c_session_May.eq_1,c_session_May_L0.eq_1,hF,e0,e1,e3,e4,e6,e7,e8,hi9,hi9',hka,k0,k1,hw]; tactic => (
        refine hR _ ?_
        (sym => simp [Qa,Qb,Qc,Qd,Qe,Qf,Qg,Qh,Qi,Qj,Qm,Qn,Qo,Qr,Qt,Qu,Qv,Qx,Q1,Q4,Q5,Xa,Xb,Xd,Xp,Xt,Xu,Xw,Xx,X5,X9,Ya,Yc,Yr,Yt,Yu,Yv,Yz,Y9,Za,Zb,Zc,Zd,Ze,Zg,Zh,Zk,Zl,Zm,Zn,Zo,Zt,Zv,Zw,Zx,Zy,Zz,Z0,Z1,Z3,Ja,Jb,Jg,Jj,Jk,Jl,Jm,Jn,Jo,Jp,Jr,Js,Jt,Ju,Jv,J1,J2,Kh,Kk,Kl,Km,K6,K8,Ue,Uf,Ug,Ut,Uu,Ux,U4,U5,U7,U8,Vb,Vk,Vm,Vo,Vp,Vq,Vr,Vs,Vt,Vu,Vv,Vw,Vx,Vy,Vz,V0,V6,V9,Wd,We,Hh,Hi,Hk,Hl,Hp,Hr,Ht,Hu,Hv,Hw,H1,H5,H6,Nc,Ni,Nk,Nl,Nm,No,Nq,Nr,Nw,Nx,Nz,N0,Be,Bh,e4,e6,e8])))
    | false =>
      rw [ht] at hF
      simp only [Bool.false_eq_true, if_false] at hF
      by_cases k2 : s.k i = 0
      · by_cases w1 : (s.w i).1 = 0
        · by_cases w2 : (s.w i).2 = 0
          · refine good (by simp [tkB, k0, k1, ht, k2, w1, w2]) fun R hR st hst => ?_
            rw [y_loop, hst]
            (sym => simp [Qa,Qb,Qc,Qd,Qe,Qf,Qg,Qh,Qi,Qj,Qm,Qn,Qo,Qr,Qt,Qu,Qv,Qx,Q1,Q4,Q5,Xa,Xb,Xd,Xp,Xt,Xu,Xw,Xx,X5,X9,Ya,Yc,Yr,Yt,Yu,Yv,Yz,Y9,Za,Zb,Zc,Zd,Ze,Zg,Zh,Zk,Zl,Zm,Zn,Zo,Zt,Zv,Zw,Zx,Zy,Zz,Z0,Z1,Z3,Ja,Jb,Jg,Jj,Jk,Jl,Jm,Jn,Jo,Jp,Jr,Js,Jt,Ju,Jv,J1,J2,Kh,Kk,Kl,Km,K6,K8,Ue,Uf,Ug,Ut,Uu,Ux,U4,U5,U7,U8,Vb,Vk,Vm,Vo,Vp,Vq,Vr,Vs,Vt,Vu,Vv,Vw,Vx,Vy,Vz,V0,V6,V9,Wd,We,Hh,Hi,Hk,Hl,Hp,Hr,Ht,Hu,Hv,Hw,H1,H5,H6,Nc,Ni,Nk,Nl,Nm,No,Nq,Nr,Nw,Nx,Nz,N0,Be,Bh,q71R0.eq_1,q71R1.eq_1,q71R2.eq_1,q71R3.eq_1,q71R4.eq_1,q71R5.eq_1,q71R6.eq_1,q71R7.eq_1,q71R8.eq_1,q71R9.eq_1,q71R10.eq_1,q71R11.eq_1,q71R12.eq_1,q71R13.eq_1,q71R14.eq_1,c_session_May.eq_1,c_session_May_L0.eq_1,hF,e0,e1,e3,e4,e6,e7,e8,hi9,hi9',hka,hwa,hb2,k0,k1,k2,w1,w2,hw]; tactic => (
              refine hR _ ?_
              (sym => simp [Qa,Qb,Qc,Qd,Qe,Qf,Qg,Qh,Qi,Qj,Qm,Qn,Qo,Qr,Qt,Qu,Qv,Qx,Q1,Q4,Q5,Xa,Xb,Xd,Xp,Xt,Xu,Xw,Xx,X5,X9,Ya,Yc,Yr,Yt,Yu,Yv,Yz,Y9,Za,Zb,Zc,Zd,Ze,Zg,Zh,Zk,Zl,Zm,Zn,Zo,Zt,Zv,Zw,Zx,Zy,Zz,Z0,Z1,Z3,Ja,Jb,Jg,Jj,Jk,Jl,Jm,Jn,Jo,Jp,Jr,Js,Jt,Ju,Jv,J1,J2,Kh,Kk,Kl,Km,K6,K8,Ue,Uf,Ug,Ut,Uu,Ux,U4,U5,U7,U8,Vb,Vk,Vm,Vo,Vp,Vq,Vr,Vs,Vt,Vu,Vv,Vw,Vx,Vy,Vz,V0,V6,V9,Wd,We,Hh,Hi,Hk,Hl,Hp,Hr,Ht,Hu,Hv,Hw,H1,H5,H6,Nc,Ni,Nk,Nl,Nm,No,Nq,Nr,Nw,Nx,Nz,N0,Be,Bh,e4,e6,e8])))
          · refine bad 0 0 (by simp [tkB, k2, ht, w2]) fun st hst => ?_
            rw [y_loop, hst]
            (sym => simp [Qa,Qb,Qc,Qd,Qe,Qf,Qg,Qh,Qi,Qj,Qm,Qn,Qo,Qr,Qt,Qu,Qv,Qx,Q1,Q4,Q5,Xa,Xb,Xd,Xp,Xt,Xu,Xw,Xx,X5,X9,Ya,Yc,Yr,Yt,Yu,Yv,Yz,Y9,Za,Zb,Zc,Zd,Ze,Zg,Zh,Zk,Zl,Zm,Zn,Zo,Zt,Zv,Zw,Zx,Zy,Zz,Z0,Z1,Z3,Ja,Jb,Jg,Jj,Jk,Jl,Jm,Jn,Jo,Jp,Jr,Js,Jt,Ju,Jv,J1,J2,Kh,Kk,Kl,Km,K6,K8,Ue,Uf,Ug,Ut,Uu,Ux,U4,U5,U7,U8,Vb,Vk,Vm,Vo,Vp,Vq,Vr,Vs,Vt,Vu,Vv,Vw,Vx,Vy,Vz,V0,V6,V9,Wd,We,Hh,Hi,Hk,Hl,Hp,Hr,Ht,Hu,Hv,Hw,H1,H5,H6,Nc,Ni,Nk,Nl,Nm,No,Nq,Nr,Nw,Nx,Nz,N0,Be,Bh,q71R0.eq_1,q71R1.eq_1,q71R2.eq_1,q71R3.eq_1,q71R4.eq_1,q71R5.eq_1,q71R6.eq_1,q71R7.eq_1,q71R8.eq_1,q71R9.eq_1,q71R10.eq_1,q71R11.eq_1,q71R12.eq_1,q71R13.eq_1,q71R14.eq_1,c_session_May.eq_1,c_session_May_L0.eq_1,hF,e0,e1,e3,e4,e6,e7,e8,hi9,hi9',hka,hwa,hb2,k0,k1,k2,w1,w2])
        · refine bad 0 0 (by simp [tkB, k2, ht, w1]) fun st hst => ?_
          rw [y_loop, hst]
          (sym => simp [Qa,Qb,Qc,Qd,Qe,Qf,Qg,Qh,Qi,Qj,Qm,Qn,Qo,Qr,Qt,Qu,Qv,Qx,Q1,Q4,Q5,Xa,Xb,Xd,Xp,Xt,Xu,Xw,Xx,X5,X9,Ya,Yc,Yr,Yt,Yu,Yv,Yz,Y9,Za,Zb,Zc,Zd,Ze,Zg,Zh,Zk,Zl,Zm,Zn,Zo,Zt,Zv,Zw,Zx,Zy,Zz,Z0,Z1,Z3,Ja,Jb,Jg,Jj,Jk,Jl,Jm,Jn,Jo,Jp,Jr,Js,Jt,Ju,Jv,J1,J2,Kh,Kk,Kl,Km,K6,K8,Ue,Uf,Ug,Ut,Uu,Ux,U4,U5,U7,U8,Vb,Vk,Vm,Vo,Vp,Vq,Vr,Vs,Vt,Vu,Vv,Vw,Vx,Vy,Vz,V0,V6,V9,Wd,We,Hh,Hi,Hk,Hl,Hp,Hr,Ht,Hu,Hv,Hw,H1,H5,H6,Nc,Ni,Nk,Nl,Nm,No,Nq,Nr,Nw,Nx,Nz,N0,Be,Bh,q71R0.eq_1,q71R1.eq_1,q71R2.eq_1,q71R3.eq_1,q71R4.eq_1,q71R5.eq_1,q71R6.eq_1,q71R7.eq_1,q71R8.eq_1,q71R9.eq_1,q71R10.eq_1,q71R11.eq_1,q71R12.eq_1,q71R13.eq_1,q71R14.eq_1,c_session_May.eq_1,c_session_May_L0.eq_1,hF,e0,e1,e3,e4,e6,e7,e8,hi9,hi9',hka,hwa,hb2,k0,k1,k2,w1])
      · refine bad 0 0 (by simp [tkB, k2, ht]) fun st hst => ?_
        rw [y_loop, hst]
        (sym => simp [Qa,Qb,Qc,Qd,Qe,Qf,Qg,Qh,Qi,Qj,Qm,Qn,Qo,Qr,Qt,Qu,Qv,Qx,Q1,Q4,Q5,Xa,Xb,Xd,Xp,Xt,Xu,Xw,Xx,X5,X9,Ya,Yc,Yr,Yt,Yu,Yv,Yz,Y9,Za,Zb,Zc,Zd,Ze,Zg,Zh,Zk,Zl,Zm,Zn,Zo,Zt,Zv,Zw,Zx,Zy,Zz,Z0,Z1,Z3,Ja,Jb,Jg,Jj,Jk,Jl,Jm,Jn,Jo,Jp,Jr,Js,Jt,Ju,Jv,J1,J2,Kh,Kk,Kl,Km,K6,K8,Ue,Uf,Ug,Ut,Uu,Ux,U4,U5,U7,U8,Vb,Vk,Vm,Vo,Vp,Vq,Vr,Vs,Vt,Vu,Vv,Vw,Vx,Vy,Vz,V0,V6,V9,Wd,We,Hh,Hi,Hk,Hl,Hp,Hr,Ht,Hu,Hv,Hw,H1,H5,H6,Nc,Ni,Nk,Nl,Nm,No,Nq,Nr,Nw,Nx,Nz,N0,Be,Bh,q71R0.eq_1,q71R1.eq_1,q71R2.eq_1,q71R3.eq_1,q71R4.eq_1,q71R5.eq_1,q71R6.eq_1,q71R7.eq_1,q71R8.eq_1,q71R9.eq_1,q71R10.eq_1,q71R11.eq_1,q71R12.eq_1,q71R13.eq_1,q71R14.eq_1,c_session_May.eq_1,c_session_May_L0.eq_1,hF,e0,e1,e3,e4,e6,e7,e8,hi9,hi9',hka,k0,k1,k2])
end Go.Proofs.YthcnhibjddomdaaGreat
