/- The document's sessions: May. Conditions: as each statement says. -/
import Derived.Test.YthcnhibjddomdaaGreatSf1
import Derived.Test.YthcnhibjddomdaaGreatRos5
import Derived.Test.YthcnhibjddomdaaGreatTokR1
import Derived.Test.YthcnhibjddomdaaGreatSef
set_option linter.unusedVariables false
set_option linter.unusedSimpArgs false
set_option linter.unusedSectionVars false
set_option maxRecDepth 20000
set_option maxHeartbeats 8000000
namespace Go.Proofs.YthcnhibjddomdaaGreat
open Go
variable (G : Nat → Option (List AV))
theorem rses_loop0 (s : Ses) (hl : s.mem.length < 1000000) (L : List Int) (f : Bool) (hL : L.length ≤ 2000) : ∀ (m i : Nat), i + m = L.length →
    aE G FT 0 lp_ref30_May_0 ⟨[(1, .ptr 0 0 0 0), (3, .data false 1 (ints L) f), (4, .int .i64 i)], [⟨33, 0, true, [sC s]⟩]⟩ = if ((L.drop i).all fun x => decide (roleOf s.mem x = 2)) = true then some (.exit 0, ⟨[(1, .ptr 0 0 0 0), (3, .data false 1 (ints L) f), (4, .int .i64 L.length), (57, .bool false)], [⟨33, 0, true, [sC s]⟩]⟩) else some (.ret, ⟨[(2, .bool false)], [⟨33, 0, true, [sC s]⟩]⟩) := by
  have hln := ints_len L
  have b0 := sC_0 s
  intro m
  induction m with
  | zero =>
    intro i hi
    rw [lp_ref30_May_0, y_loop]
    have e : L.drop i = [] := List.drop_eq_nil_of_le (by omega)
    obtain rfl : i = L.length := by omega
    have e0 : decide ((L.length : Int) < L.length) = false := by simp
    rw [e, List.all_nil, if_pos rfl]
    (sym => simp [Qa,Qb,Qc,Qd,Qe,Qi,Qj,Qm,Qn,Qo,Qr,Qt,Q4,Xa,Xp,Xs,Xy,X5,X9,Ya,Yh,Yr,Ys,Yt,Yv,Yy,Y9,Za,Zb,Zc,Ze,Zg,Zh,Zk,Zl,Zm,Zn,Zo,Zt,Zv,Zw,Zx,Zy,Zz,Z0,Z3,Jj,Jk,Jl,Jm,Jn,Jo,Jp,Jr,Js,Jt,Ju,Jv,Ut,Ux,U0,U4,U5,U7,Vb,Ve,Vk,Vm,Vo,Vp,Vq,Vr,Vs,Vt,Vu,Vv,Vw,Vx,Vy,Vz,V0,V6,V9,Wd,We,Hh,Hp,Hv,Hw,H1,H5,H6,Ni,Nk,Nl,Nm,No,Nw,Nx,Be,q51R0.eq_1,q51R1.eq_1,q51R2.eq_1,q51R3.eq_1,q51R4.eq_1,q51R5.eq_1,q51R7.eq_1,q51R8.eq_1,q51R6.eq_1,q51R9.eq_1,q51R10.eq_1,q51R12.eq_1,q51R13.eq_1,q51R14.eq_1,q51R11.eq_1,q51R15.eq_1,q51R16.eq_1,q51R18.eq_1,q51R19.eq_1,q51R20.eq_1,q51R17.eq_1,q51R21.eq_1,c_ref30_May.eq_1,c_ref30_May_L0.eq_1,e0,hln])
  | succ m ih =>
    intro i hi
    have hlt : i < L.length := by omega
    have hlt' : (i : Int) < L.length := by omega
    have hw := wrap_nat (n := i) (by omega)
    have hg := ints_at hlt
    have hR := fun b f => rrole_P G s.mem b f L[i] hl
    have e : L.drop i = L[i] :: L.drop (i + 1) := List.drop_eq_getElem_cons hlt
    have ih := ih (i + 1) (by omega)
    rw [lp_ref30_May_0] at ih
    rw [e, List.all_cons, lp_ref30_May_0, y_loop]
    generalize L[i] = x at *
    by_cases hx : roleOf s.mem x = 2
    · rw [decide_eq_true hx, Bool.true_and, ← ih]
      (sym => simp [Qa,Qb,Qc,Qd,Qe,Qi,Qj,Qm,Qn,Qo,Qr,Qt,Q4,Xa,Xp,Xs,Xy,X5,X9,Ya,Yh,Yr,Ys,Yt,Yv,Yy,Y9,Za,Zb,Zc,Ze,Zg,Zh,Zk,Zl,Zm,Zn,Zo,Zt,Zv,Zw,Zx,Zy,Zz,Z0,Z3,Jj,Jk,Jl,Jm,Jn,Jo,Jp,Jr,Js,Jt,Ju,Jv,Ut,Ux,U0,U4,U5,U7,Vb,Ve,Vk,Vm,Vo,Vp,Vq,Vr,Vs,Vt,Vu,Vv,Vw,Vx,Vy,Vz,V0,V6,V9,Wd,We,Hh,Hp,Hv,Hw,H1,H5,H6,Ni,Nk,Nl,Nm,No,Nw,Nx,Be,q51R0.eq_1,q51R1.eq_1,q51R2.eq_1,q51R3.eq_1,q51R4.eq_1,q51R5.eq_1,q51R7.eq_1,q51R8.eq_1,q51R6.eq_1,q51R9.eq_1,q51R10.eq_1,q51R12.eq_1,q51R13.eq_1,q51R14.eq_1,q51R11.eq_1,q51R15.eq_1,q51R16.eq_1,q51R18.eq_1,q51R19.eq_1,q51R20.eq_1,q51R17.eq_1,q51R21.eq_1,c_ref30_May.eq_1,c_ref30_May_L0.eq_1,hlt',hg,hln,hR,hx,hw,b0])
    · rw [decide_eq_false hx, Bool.false_and, if_neg (by simp)]
      (sym => simp [Qa,Qb,Qc,Qd,Qe,Qi,Qj,Qm,Qn,Qo,Qr,Qt,Q4,Xa,Xp,Xs,Xy,X5,X9,Ya,Yh,Yr,Ys,Yt,Yv,Yy,Y9,Za,Zb,Zc,Ze,Zg,Zh,Zk,Zl,Zm,Zn,Zo,Zt,Zv,Zw,Zx,Zy,Zz,Z0,Z3,Jj,Jk,Jl,Jm,Jn,Jo,Jp,Jr,Js,Jt,Ju,Jv,Ut,Ux,U0,U4,U5,U7,Vb,Ve,Vk,Vm,Vo,Vp,Vq,Vr,Vs,Vt,Vu,Vv,Vw,Vx,Vy,Vz,V0,V6,V9,Wd,We,Hh,Hp,Hv,Hw,H1,H5,H6,Ni,Nk,Nl,Nm,No,Nw,Nx,Be,q51R0.eq_1,q51R1.eq_1,q51R2.eq_1,q51R3.eq_1,q51R4.eq_1,q51R5.eq_1,q51R7.eq_1,q51R8.eq_1,q51R6.eq_1,q51R9.eq_1,q51R10.eq_1,q51R12.eq_1,q51R13.eq_1,q51R14.eq_1,q51R11.eq_1,q51R15.eq_1,q51R16.eq_1,q51R18.eq_1,q51R19.eq_1,q51R20.eq_1,q51R17.eq_1,q51R21.eq_1,c_ref30_May.eq_1,c_ref30_May_L0.eq_1,hlt',hg,hln,hR,hx,hw,b0])
theorem rses_loop1 (s : Ses) (hm : mayM s.mem = true) : ∀ (m i : Nat), i + m = 9 → ∀ st, agc 0 [1, 5] st = some ⟨[(1, .ptr 0 0 0 0), (5, .int .i64 i)], [⟨33, 0, true, [sC s]⟩]⟩ →
    aE G FT 0 lp_ref30_May_1 st = if tkFrom s m i = true then some (.exit 2, ⟨[(1, .ptr 0 0 0 0), (5, .int .i64 9), (69, .bool false)], [⟨33, 0, true, [sC s]⟩]⟩) else some (.ret, ⟨[(2, .bool false)], [⟨33, 0, true, [sC s]⟩]⟩) := by
  have b0 := sC_0 s
  have b1 := sC_len s
  have hml := mayM_len hm
  intro m
  induction m with
  | zero =>
    intro i hi st hst
    rw [lp_ref30_May_1, y_loop, hst]
    obtain rfl : i = 9 := by omega
    rw [tkFrom, if_pos rfl]
    have e : ((9 : Nat) : Int) = 9 := rfl
    (sym => simp [Qa,Qb,Qc,Qd,Qe,Qf,Qg,Qh,Qi,Qj,Qm,Qn,Qo,Qr,Qt,Qu,Q4,Xa,Xd,Xp,Xt,X5,X9,Ya,Yc,Yr,Yt,Yv,Yz,Y9,Za,Zb,Zc,Ze,Zg,Zh,Zk,Zl,Zm,Zn,Zo,Zt,Zv,Zw,Zx,Zy,Zz,Z0,Z3,Ja,Jb,Jj,Jk,Jl,Jm,Jn,Jo,Jp,Jr,Js,Jt,Ju,Jv,Ut,Ux,U4,U5,U7,Vb,Vk,Vm,Vo,Vp,Vq,Vr,Vs,Vt,Vu,Vv,Vw,Vx,Vy,Vz,V0,V6,V9,Wd,We,Hh,Hp,Hv,Hw,H1,H5,H6,H9,Nc,Ne,Ni,Nk,Nl,Nm,No,Nw,Nx,Nz,Be,Bh,Bi,q51R0.eq_1,q51R1.eq_1,q51R2.eq_1,q51R3.eq_1,q51R4.eq_1,q51R5.eq_1,q51R7.eq_1,q51R8.eq_1,q51R6.eq_1,q51R9.eq_1,q51R10.eq_1,q51R12.eq_1,q51R13.eq_1,q51R14.eq_1,q51R11.eq_1,q51R15.eq_1,q51R16.eq_1,q51R18.eq_1,q51R19.eq_1,q51R20.eq_1,q51R17.eq_1,q51R21.eq_1,c_ref30_May.eq_1,c_ref30_May_L1.eq_1,e])
  | succ m ih =>
    intro i hi st hst
    have ih := ih (i + 1) (by omega)
    rw [lp_ref30_May_1] at ih
    rw [lp_ref30_May_1, y_loop, hst]
    have hi9 : i < 9 := by omega
    have hi9' : (i : Int) < 9 := by omega
    have hw := wrap_nat (n := i) (by omega)
    have hR := fun b f => rrole_P G s.mem b f i (by omega)
    have ka := sC_kat s hi9
    have w0 : (sC s)[4 + i * 2]? = some (.int .i64 (s.w i).1) := by
      rcases nine hi9 with rfl | rfl | rfl | rfl | rfl | rfl | rfl | rfl | rfl <;> rfl
    have w1 : (sC s)[4 + i * 2 + 1]? = some (.int .i64 (s.w i).2) := by
      rcases nine hi9 with rfl | rfl | rfl | rfl | rfl | rfl | rfl | rfl | rfl <;> rfl
    have q1 : 24 + i < 33 := by omega
    have q2 : 4 + i * 2 < 33 := by omega
    have q3 : 4 + i * 2 + 1 < 33 := by omega
    rw [tkFrom]
    have ht : tkB s i = (!decide (s.k i < 0) && !decide (1073741824 < s.k i) && (decide (roleOf s.mem i ≠ 0) || (decide (s.k i = 0) && (decide ((s.w i).1 = 0) && decide ((s.w i).2 = 0))))) := by
      unfold tkB; rw [there_role hm]
    rw [ht]
    generalize hk : s.k i = k at *
    generalize hx : s.w i = x at *
    generalize sC s = scs at *
    have fall : ∀ b, b = false → ((if (b && tkFrom s m (i + 1)) = true then some (.exit 2, ⟨[(1, .ptr 0 0 0 0), (5, .int .i64 9), (69, .bool false)], [⟨33, 0, true, [scs]⟩]⟩) else some (.ret, ⟨[(2, .bool false)], [⟨33, 0, true, [scs]⟩]⟩)) : Option (AEx × ASt)) = some (.ret, ⟨[(2, .bool false)], [⟨33, 0, true, [scs]⟩]⟩) := fun b hb => by rw [hb, Bool.false_and, if_neg (by simp)]
    have pass : ∀ b, b = true → ((if (b && tkFrom s m (i + 1)) = true then some (.exit 2, ⟨[(1, .ptr 0 0 0 0), (5, .int .i64 9), (69, .bool false)], [⟨33, 0, true, [scs]⟩]⟩) else some (.ret, ⟨[(2, .bool false)], [⟨33, 0, true, [scs]⟩]⟩)) : Option (AEx × ASt)) = (if tkFrom s m (i + 1) = true then some (.exit 2, ⟨[(1, .ptr 0 0 0 0), (5, .int .i64 9), (69, .bool false)], [⟨33, 0, true, [scs]⟩]⟩) else some (.ret, ⟨[(2, .bool false)], [⟨33, 0, true, [scs]⟩]⟩)) := fun b hb => by rw [hb, Bool.true_and]
    by_cases k0 : k < 0
    · rw [fall _ (by simp [k0])]
      (sym => simp [Qa,Qb,Qc,Qd,Qe,Qf,Qg,Qh,Qi,Qj,Qm,Qn,Qo,Qr,Qt,Qu,Q4,Xa,Xd,Xp,Xt,X5,X9,Ya,Yc,Yr,Yt,Yv,Yz,Y9,Za,Zb,Zc,Ze,Zg,Zh,Zk,Zl,Zm,Zn,Zo,Zt,Zv,Zw,Zx,Zy,Zz,Z0,Z3,Ja,Jb,Jj,Jk,Jl,Jm,Jn,Jo,Jp,Jr,Js,Jt,Ju,Jv,Ut,Ux,U4,U5,U7,Vb,Vk,Vm,Vo,Vp,Vq,Vr,Vs,Vt,Vu,Vv,Vw,Vx,Vy,Vz,V0,V6,V9,Wd,We,Hh,Hp,Hv,Hw,H1,H5,H6,H9,Nc,Ne,Ni,Nk,Nl,Nm,No,Nw,Nx,Nz,Be,Bh,Bi,q51R0.eq_1,q51R1.eq_1,q51R2.eq_1,q51R3.eq_1,q51R4.eq_1,q51R5.eq_1,q51R7.eq_1,q51R8.eq_1,q51R6.eq_1,q51R9.eq_1,q51R10.eq_1,q51R12.eq_1,q51R13.eq_1,q51R14.eq_1,q51R11.eq_1,q51R15.eq_1,q51R16.eq_1,q51R18.eq_1,q51R19.eq_1,q51R20.eq_1,q51R17.eq_1,q51R21.eq_1,c_ref30_May.eq_1,c_ref30_May_L1.eq_1,hi9',hR,b0,b1,ka,q1,k0])
    by_cases k1 : 1073741824 < k
    · rw [fall _ (by simp [k1])]
      (sym => simp [Qa,Qb,Qc,Qd,Qe,Qf,Qg,Qh,Qi,Qj,Qm,Qn,Qo,Qr,Qt,Qu,Q4,Xa,Xd,Xp,Xt,X5,X9,Ya,Yc,Yr,Yt,Yv,Yz,Y9,Za,Zb,Zc,Ze,Zg,Zh,Zk,Zl,Zm,Zn,Zo,Zt,Zv,Zw,Zx,Zy,Zz,Z0,Z3,Ja,Jb,Jj,Jk,Jl,Jm,Jn,Jo,Jp,Jr,Js,Jt,Ju,Jv,Ut,Ux,U4,U5,U7,Vb,Vk,Vm,Vo,Vp,Vq,Vr,Vs,Vt,Vu,Vv,Vw,Vx,Vy,Vz,V0,V6,V9,Wd,We,Hh,Hp,Hv,Hw,H1,H5,H6,H9,Nc,Ne,Ni,Nk,Nl,Nm,No,Nw,Nx,Nz,Be,Bh,Bi,q51R0.eq_1,q51R1.eq_1,q51R2.eq_1,q51R3.eq_1,q51R4.eq_1,q51R5.eq_1,q51R7.eq_1,q51R8.eq_1,q51R6.eq_1,q51R9.eq_1,q51R10.eq_1,q51R12.eq_1,q51R13.eq_1,q51R14.eq_1,q51R11.eq_1,q51R15.eq_1,q51R16.eq_1,q51R18.eq_1,q51R19.eq_1,q51R20.eq_1,q51R17.eq_1,q51R21.eq_1,c_ref30_May.eq_1,c_ref30_May_L1.eq_1,hi9',hR,b0,b1,ka,q1,k0,k1])
    by_cases hr : roleOf s.mem i = 0
    · by_cases k2 : k = 0
      · by_cases x1 : x.1 = 0
        · by_cases x2 : x.2 = 0
          · rw [pass _ (by simp [k0, k1, hr, k2, x1, x2])]
            generalize (if tkFrom s m (i + 1) = true then _ else _ : Option (AEx × ASt)) = R at ih ⊢
            (sym => simp [Qa,Qb,Qc,Qd,Qe,Qf,Qg,Qh,Qi,Qj,Qm,Qn,Qo,Qr,Qt,Qu,Q4,Xa,Xd,Xp,Xt,X5,X9,Ya,Yc,Yr,Yt,Yv,Yz,Y9,Za,Zb,Zc,Ze,Zg,Zh,Zk,Zl,Zm,Zn,Zo,Zt,Zv,Zw,Zx,Zy,Zz,Z0,Z3,Ja,Jb,Jj,Jk,Jl,Jm,Jn,Jo,Jp,Jr,Js,Jt,Ju,Jv,Ut,Ux,U4,U5,U7,Vb,Vk,Vm,Vo,Vp,Vq,Vr,Vs,Vt,Vu,Vv,Vw,Vx,Vy,Vz,V0,V6,V9,Wd,We,Hh,Hp,Hv,Hw,H1,H5,H6,H9,Nc,Ne,Ni,Nk,Nl,Nm,No,Nw,Nx,Nz,Be,Bh,Bi,q51R0.eq_1,q51R1.eq_1,q51R2.eq_1,q51R3.eq_1,q51R4.eq_1,q51R5.eq_1,q51R7.eq_1,q51R8.eq_1,q51R6.eq_1,q51R9.eq_1,q51R10.eq_1,q51R12.eq_1,q51R13.eq_1,q51R14.eq_1,q51R11.eq_1,q51R15.eq_1,q51R16.eq_1,q51R18.eq_1,q51R19.eq_1,q51R20.eq_1,q51R17.eq_1,q51R21.eq_1,c_ref30_May.eq_1,c_ref30_May_L1.eq_1,hi9',hR,hr,b0,b1,ka,w0,w1,q1,q2,q3,k0,k1,k2,x1,x2,hw]; tactic => (
              refine ih _ ?_
              (sym => simp [Qa,Qb,Qc,Qd,Qe,Qf,Qg,Qh,Qi,Qj,Qm,Qn,Qo,Qr,Qt,Qu,Q4,Xa,Xd,Xp,Xt,X5,X9,Ya,Yc,Yr,Yt,Yv,Yz,Y9,Za,Zb,Zc,Ze,Zg,Zh,Zk,Zl,Zm,Zn,Zo,Zt,Zv,Zw,Zx,Zy,Zz,Z0,Z3,Ja,Jb,Jj,Jk,Jl,Jm,Jn,Jo,Jp,Jr,Js,Jt,Ju,Jv,Ut,Ux,U4,U5,U7,Vb,Vk,Vm,Vo,Vp,Vq,Vr,Vs,Vt,Vu,Vv,Vw,Vx,Vy,Vz,V0,V6,V9,Wd,We,Hh,Hp,Hv,Hw,H1,H5,H6,H9,Nc,Ne,Ni,Nk,Nl,Nm,No,Nw,Nx,Nz,Be,Bh,Bi])))
          · rw [fall _ (by simp [hr, x2])]
            (sym => simp [Qa,Qb,Qc,Qd,Qe,Qf,Qg,Qh,Qi,Qj,Qm,Qn,Qo,Qr,Qt,Qu,Q4,Xa,Xd,Xp,Xt,X5,X9,Ya,Yc,Yr,Yt,Yv,Yz,Y9,Za,Zb,Zc,Ze,Zg,Zh,Zk,Zl,Zm,Zn,Zo,Zt,Zv,Zw,Zx,Zy,Zz,Z0,Z3,Ja,Jb,Jj,Jk,Jl,Jm,Jn,Jo,Jp,Jr,Js,Jt,Ju,Jv,Ut,Ux,U4,U5,U7,Vb,Vk,Vm,Vo,Vp,Vq,Vr,Vs,Vt,Vu,Vv,Vw,Vx,Vy,Vz,V0,V6,V9,Wd,We,Hh,Hp,Hv,Hw,H1,H5,H6,H9,Nc,Ne,Ni,Nk,Nl,Nm,No,Nw,Nx,Nz,Be,Bh,Bi,q51R0.eq_1,q51R1.eq_1,q51R2.eq_1,q51R3.eq_1,q51R4.eq_1,q51R5.eq_1,q51R7.eq_1,q51R8.eq_1,q51R6.eq_1,q51R9.eq_1,q51R10.eq_1,q51R12.eq_1,q51R13.eq_1,q51R14.eq_1,q51R11.eq_1,q51R15.eq_1,q51R16.eq_1,q51R18.eq_1,q51R19.eq_1,q51R20.eq_1,q51R17.eq_1,q51R21.eq_1,c_ref30_May.eq_1,c_ref30_May_L1.eq_1,hi9',hR,hr,b0,b1,ka,w0,w1,q1,q2,q3,k0,k1,k2,x1,x2])
        · rw [fall _ (by simp [hr, x1])]
          (sym => simp [Qa,Qb,Qc,Qd,Qe,Qf,Qg,Qh,Qi,Qj,Qm,Qn,Qo,Qr,Qt,Qu,Q4,Xa,Xd,Xp,Xt,X5,X9,Ya,Yc,Yr,Yt,Yv,Yz,Y9,Za,Zb,Zc,Ze,Zg,Zh,Zk,Zl,Zm,Zn,Zo,Zt,Zv,Zw,Zx,Zy,Zz,Z0,Z3,Ja,Jb,Jj,Jk,Jl,Jm,Jn,Jo,Jp,Jr,Js,Jt,Ju,Jv,Ut,Ux,U4,U5,U7,Vb,Vk,Vm,Vo,Vp,Vq,Vr,Vs,Vt,Vu,Vv,Vw,Vx,Vy,Vz,V0,V6,V9,Wd,We,Hh,Hp,Hv,Hw,H1,H5,H6,H9,Nc,Ne,Ni,Nk,Nl,Nm,No,Nw,Nx,Nz,Be,Bh,Bi,q51R0.eq_1,q51R1.eq_1,q51R2.eq_1,q51R3.eq_1,q51R4.eq_1,q51R5.eq_1,q51R7.eq_1,q51R8.eq_1,q51R6.eq_1,q51R9.eq_1,q51R10.eq_1,q51R12.eq_1,q51R13.eq_1,q51R14.eq_1,q51R11.eq_1,q51R15.eq_1,q51R16.eq_1,q51R18.eq_1,q51R19.eq_1,q51R20.eq_1,q51R17.eq_1,q51R21.eq_1,c_ref30_May.eq_1,c_ref30_May_L1.eq_1,hi9',hR,hr,b0,b1,ka,w0,w1,q1,q2,q3,k0,k1,k2,x1])
      · rw [fall _ (by simp [hr, k2])]
        (sym => simp [Qa,Qb,Qc,Qd,Qe,Qf,Qg,Qh,Qi,Qj,Qm,Qn,Qo,Qr,Qt,Qu,Q4,Xa,Xd,Xp,Xt,X5,X9,Ya,Yc,Yr,Yt,Yv,Yz,Y9,Za,Zb,Zc,Ze,Zg,Zh,Zk,Zl,Zm,Zn,Zo,Zt,Zv,Zw,Zx,Zy,Zz,Z0,Z3,Ja,Jb,Jj,Jk,Jl,Jm,Jn,Jo,Jp,Jr,Js,Jt,Ju,Jv,Ut,Ux,U4,U5,U7,Vb,Vk,Vm,Vo,Vp,Vq,Vr,Vs,Vt,Vu,Vv,Vw,Vx,Vy,Vz,V0,V6,V9,Wd,We,Hh,Hp,Hv,Hw,H1,H5,H6,H9,Nc,Ne,Ni,Nk,Nl,Nm,No,Nw,Nx,Nz,Be,Bh,Bi,q51R0.eq_1,q51R1.eq_1,q51R2.eq_1,q51R3.eq_1,q51R4.eq_1,q51R5.eq_1,q51R7.eq_1,q51R8.eq_1,q51R6.eq_1,q51R9.eq_1,q51R10.eq_1,q51R12.eq_1,q51R13.eq_1,q51R14.eq_1,q51R11.eq_1,q51R15.eq_1,q51R16.eq_1,q51R18.eq_1,q51R19.eq_1,q51R20.eq_1,q51R17.eq_1,q51R21.eq_1,c_ref30_May.eq_1,c_ref30_May_L1.eq_1,hi9',hR,hr,b0,b1,ka,w0,w1,q1,q2,q3,k0,k1,k2])
    · rw [pass _ (by simp [k0, k1, hr])]
      generalize (if tkFrom s m (i + 1) = true then _ else _ : Option (AEx × ASt)) = R at ih ⊢
      (sym => simp [Qa,Qb,Qc,Qd,Qe,Qf,Qg,Qh,Qi,Qj,Qm,Qn,Qo,Qr,Qt,Qu,Q4,Xa,Xd,Xp,Xt,X5,X9,Ya,Yc,Yr,Yt,Yv,Yz,Y9,Za,Zb,Zc,Ze,Zg,Zh,Zk,Zl,Zm,Zn,Zo,Zt,Zv,Zw,Zx,Zy,Zz,Z0,Z3,Ja,Jb,Jj,Jk,Jl,Jm,Jn,Jo,Jp,Jr,Js,Jt,Ju,Jv,Ut,Ux,U4,U5,U7,Vb,Vk,Vm,Vo,Vp,Vq,Vr,Vs,Vt,Vu,Vv,Vw,Vx,Vy,Vz,V0,V6,V9,Wd,We,Hh,Hp,Hv,Hw,H1,H5,H6,H9,Nc,Ne,Ni,Nk,Nl,Nm,No,Nw,Nx,Nz,Be,Bh,Bi,q51R0.eq_1,q51R1.eq_1,q51R2.eq_1,q51R3.eq_1,q51R4.eq_1,q51R5.eq_1,q51R7.eq_1,q51R8.eq_1,q51R6.eq_1,q51R9.eq_1,q51R10.eq_1,q51R12.eq_1,q51R13.eq_1,q51R14.eq_1,q51R11.eq_1,q51R15.eq_1,q51R16.eq_1,q51R18.eq_1,q51R19.eq_1,q51R20.eq_1,q51R17.eq_1,q51R21.eq_1,c_ref30_May.eq_1,c_ref30_May_L1.eq_1,hi9',hR,hr,b0,b1,ka,q1,k0,k1,hw]; tactic => (
        refine ih _ ?_
        (sym => simp [Qa,Qb,Qc,Qd,Qe,Qf,Qg,Qh,Qi,Qj,Qm,Qn,Qo,Qr,Qt,Qu,Q4,Xa,Xd,Xp,Xt,X5,X9,Ya,Yc,Yr,Yt,Yv,Yz,Y9,Za,Zb,Zc,Ze,Zg,Zh,Zk,Zl,Zm,Zn,Zo,Zt,Zv,Zw,Zx,Zy,Zz,Z0,Z3,Ja,Jb,Jj,Jk,Jl,Jm,Jn,Jo,Jp,Jr,Js,Jt,Ju,Jv,Ut,Ux,U4,U5,U7,Vb,Vk,Vm,Vo,Vp,Vq,Vr,Vs,Vt,Vu,Vv,Vw,Vx,Vy,Vz,V0,V6,V9,Wd,We,Hh,Hp,Hv,Hw,H1,H5,H6,H9,Nc,Ne,Ni,Nk,Nl,Nm,No,Nw,Nx,Nz,Be,Bh,Bi])))
theorem rses_loop2 (s : Ses) (hm : mayM s.mem = true) (hq : mayQ 0 s.q = true) (hl : s.q.length ≤ 1000) : ∀ (m i : Nat), i + m = s.q.length → ∃ h', ∀ st, agc 0 [1, 7] st = some ⟨[(1, .ptr 0 0 0 0), (7, .int .i64 i)], [⟨33, 0, true, [sC s]⟩]⟩ →
    aE G FT 0 lp_ref30_May_2 st = if ((s.q.drop i).any (outB s)) = true then some (.ret, ⟨[(2, .bool false)], h'⟩) else some (.exit 4, ⟨[(1, .ptr 0 0 0 0), (7, .int .i64 s.q.length), (120, .bool false)], [⟨33, 0, true, [sC s]⟩]⟩) := by
  have b0 := sC_0 s
  have b1 := sC_len s
  have b3 := sC_3 s
  have hln := pcs_len s.q
  have hml := mayM_len hm
  intro m
  induction m with
  | zero =>
    intro i hi
    have e : s.q.drop i = [] := List.drop_eq_nil_of_le (by omega)
    obtain rfl : i = s.q.length := by omega
    have e0 : decide ((s.q.length : Int) < s.q.length) = false := by simp
    refine ⟨[], fun st hst => ?_⟩
    rw [lp_ref30_May_2, y_loop, hst, e, List.any_nil, if_neg (by simp)]
    (sym => simp [Qa,Qb,Qc,Qd,Qe,Qf,Qg,Qi,Qj,Qm,Qn,Qo,Qr,Qt,Qu,Qv,Q4,Q5,Xa,Xp,Xs,Xt,Xy,X5,X8,Ya,Yc,Yh,Yr,Ys,Yt,Yu,Yv,Yy,Yz,Y9,Za,Zb,Zc,Zd,Ze,Zg,Zh,Zk,Zl,Zm,Zn,Zo,Zt,Zv,Zw,Zx,Zy,Zz,Z0,Z1,Z3,Jb,Jj,Jk,Jl,Jm,Jn,Jo,Jp,Jr,Js,Jt,Ju,Jv,J1,J2,Ue,Uf,Ug,Ul,Ut,Ux,U4,U5,U7,Vb,Vk,Vm,Vo,Vp,Vq,Vr,Vs,Vt,Vu,Vv,Vw,Vx,Vy,Vz,V0,V6,V9,Wd,We,Hh,Hi,Hk,Hl,Ho,Hp,Hq,Hr,Hs,Ht,Hu,Hv,Hw,H1,H5,H6,Nc,Ne,Ni,Nk,Nl,Nm,No,Nw,Nx,Nz,N0,Be,Bh,q51R0.eq_1,q51R1.eq_1,q51R2.eq_1,q51R3.eq_1,q51R4.eq_1,q51R5.eq_1,q51R7.eq_1,q51R8.eq_1,q51R6.eq_1,q51R9.eq_1,q51R10.eq_1,q51R12.eq_1,q51R13.eq_1,q51R14.eq_1,q51R11.eq_1,q51R15.eq_1,q51R16.eq_1,q51R18.eq_1,q51R19.eq_1,q51R20.eq_1,q51R17.eq_1,q51R21.eq_1,c_ref30_May.eq_1,c_ref30_May_L2.eq_1,e0,hln,b3])
  | succ m ih =>
    intro i hi
    obtain ⟨h', ih⟩ := ih (i + 1) (by omega)
    have hlt : i < s.q.length := by omega
    have hlt' : (i : Int) < s.q.length := by omega
    have hw := wrap_nat (n := i) (by omega)
    have hg := pcs_at hlt
    have e : s.q.drop i = s.q[i] :: s.q.drop (i + 1) := List.drop_eq_getElem_cons hlt
    have hR := fun b f => rrole_P G s.mem b f s.q[i].1 (by omega)
    have hid : 1 ≤ s.q[i].1 ∧ s.q[i].1 ≤ 8 := by
      have := ((may0_iff s.q).1 hq).1 _ (List.getElem_mem hlt)
      simp only [pcB, pieceB, Bool.and_eq_true, decide_eq_true_eq] at this
      omega
    rw [lp_ref30_May_2] at ih
    rw [lp_ref30_May_2, e, List.any_cons]
    have ho : outB s s.q[i] = (!decide (roleOf s.mem s.q[i].1 ≠ 0) || decide (s.k s.q[i].1.toNat < s.q[i].2.1)) := by
      unfold outB; rw [there_role hm]
    generalize hz : s.q[i] = z at *
    obtain ⟨j, hj⟩ : ∃ j : Nat, z.1 = (j : Int) := ⟨z.1.toNat, by omega⟩
    have hj9 : j < 9 := by omega
    have hj9' : (j : Int) < 9 := by omega
    have ka := sC_kat s hj9
    have q1 : 24 + j < 33 := by omega
    rw [hj, Int.toNat_natCast] at ho
    rw [hj] at hg hR
    by_cases hr : roleOf s.mem j = 0
    · refine ⟨[⟨33, 0, true, [sC s]⟩, ⟨3, 0, true, [[.int .i64 j, .int .i64 z.2.1, .data false 1 (byt z.2.2.1) z.2.2.2]]⟩], fun st hst => ?_⟩
      rw [y_loop, hst, ho, if_pos (by simp [hr])]
      generalize sC s = scs at *
      (sym => simp [Qa,Qb,Qc,Qd,Qe,Qf,Qg,Qi,Qj,Qm,Qn,Qo,Qr,Qt,Qu,Qv,Q4,Q5,Xa,Xp,Xs,Xt,Xy,X5,X8,Ya,Yc,Yh,Yr,Ys,Yt,Yu,Yv,Yy,Yz,Y9,Za,Zb,Zc,Zd,Ze,Zg,Zh,Zk,Zl,Zm,Zn,Zo,Zt,Zv,Zw,Zx,Zy,Zz,Z0,Z1,Z3,Jb,Jj,Jk,Jl,Jm,Jn,Jo,Jp,Jr,Js,Jt,Ju,Jv,J1,J2,Ue,Uf,Ug,Ul,Ut,Ux,U4,U5,U7,Vb,Vk,Vm,Vo,Vp,Vq,Vr,Vs,Vt,Vu,Vv,Vw,Vx,Vy,Vz,V0,V6,V9,Wd,We,Hh,Hi,Hk,Hl,Ho,Hp,Hq,Hr,Hs,Ht,Hu,Hv,Hw,H1,H5,H6,Nc,Ne,Ni,Nk,Nl,Nm,No,Nw,Nx,Nz,N0,Be,Bh,q51R0.eq_1,q51R1.eq_1,q51R2.eq_1,q51R3.eq_1,q51R4.eq_1,q51R5.eq_1,q51R7.eq_1,q51R8.eq_1,q51R6.eq_1,q51R9.eq_1,q51R10.eq_1,q51R12.eq_1,q51R13.eq_1,q51R14.eq_1,q51R11.eq_1,q51R15.eq_1,q51R16.eq_1,q51R18.eq_1,q51R19.eq_1,q51R20.eq_1,q51R17.eq_1,q51R21.eq_1,c_ref30_May.eq_1,c_ref30_May_L2.eq_1,hlt',hg,hln,b0,b1,b3,hR,hr])
    · by_cases hc : s.k j < z.2.1
      · refine ⟨[⟨33, 0, true, [sC s]⟩, ⟨3, 0, true, [[.int .i64 j, .int .i64 z.2.1, .data false 1 (byt z.2.2.1) z.2.2.2]]⟩], fun st hst => ?_⟩
        rw [y_loop, hst, ho, if_pos (by simp [hc])]
        generalize sC s = scs at *
        (sym => simp [Qa,Qb,Qc,Qd,Qe,Qf,Qg,Qi,Qj,Qm,Qn,Qo,Qr,Qt,Qu,Qv,Q4,Q5,Xa,Xp,Xs,Xt,Xy,X5,X8,Ya,Yc,Yh,Yr,Ys,Yt,Yu,Yv,Yy,Yz,Y9,Za,Zb,Zc,Zd,Ze,Zg,Zh,Zk,Zl,Zm,Zn,Zo,Zt,Zv,Zw,Zx,Zy,Zz,Z0,Z1,Z3,Jb,Jj,Jk,Jl,Jm,Jn,Jo,Jp,Jr,Js,Jt,Ju,Jv,J1,J2,Ue,Uf,Ug,Ul,Ut,Ux,U4,U5,U7,Vb,Vk,Vm,Vo,Vp,Vq,Vr,Vs,Vt,Vu,Vv,Vw,Vx,Vy,Vz,V0,V6,V9,Wd,We,Hh,Hi,Hk,Hl,Ho,Hp,Hq,Hr,Hs,Ht,Hu,Hv,Hw,H1,H5,H6,Nc,Ne,Ni,Nk,Nl,Nm,No,Nw,Nx,Nz,N0,Be,Bh,q51R0.eq_1,q51R1.eq_1,q51R2.eq_1,q51R3.eq_1,q51R4.eq_1,q51R5.eq_1,q51R7.eq_1,q51R8.eq_1,q51R6.eq_1,q51R9.eq_1,q51R10.eq_1,q51R12.eq_1,q51R13.eq_1,q51R14.eq_1,q51R11.eq_1,q51R15.eq_1,q51R16.eq_1,q51R18.eq_1,q51R19.eq_1,q51R20.eq_1,q51R17.eq_1,q51R21.eq_1,c_ref30_May.eq_1,c_ref30_May_L2.eq_1,hlt',hg,hln,b0,b1,b3,hR,hr,ka,q1,hj9',hc])
      · refine ⟨h', fun st hst => ?_⟩
        have hb : (!decide (roleOf s.mem j ≠ 0) || decide (s.k j < z.2.1)) = false := by simp [hr]; omega
        rw [y_loop, hst, ho, hb, Bool.false_or]
        generalize (if ((s.q.drop (i + 1)).any (outB s)) = true then _ else _ : Option (AEx × ASt)) = R at ih ⊢
        generalize sC s = scs at *
        (sym => simp [Qa,Qb,Qc,Qd,Qe,Qf,Qg,Qi,Qj,Qm,Qn,Qo,Qr,Qt,Qu,Qv,Q4,Q5,Xa,Xp,Xs,Xt,Xy,X5,X8,Ya,Yc,Yh,Yr,Ys,Yt,Yu,Yv,Yy,Yz,Y9,Za,Zb,Zc,Zd,Ze,Zg,Zh,Zk,Zl,Zm,Zn,Zo,Zt,Zv,Zw,Zx,Zy,Zz,Z0,Z1,Z3,Jb,Jj,Jk,Jl,Jm,Jn,Jo,Jp,Jr,Js,Jt,Ju,Jv,J1,J2,Ue,Uf,Ug,Ul,Ut,Ux,U4,U5,U7,Vb,Vk,Vm,Vo,Vp,Vq,Vr,Vs,Vt,Vu,Vv,Vw,Vx,Vy,Vz,V0,V6,V9,Wd,We,Hh,Hi,Hk,Hl,Ho,Hp,Hq,Hr,Hs,Ht,Hu,Hv,Hw,H1,H5,H6,Nc,Ne,Ni,Nk,Nl,Nm,No,Nw,Nx,Nz,N0,Be,Bh,q51R0.eq_1,q51R1.eq_1,q51R2.eq_1,q51R3.eq_1,q51R4.eq_1,q51R5.eq_1,q51R7.eq_1,q51R8.eq_1,q51R6.eq_1,q51R9.eq_1,q51R10.eq_1,q51R12.eq_1,q51R13.eq_1,q51R14.eq_1,q51R11.eq_1,q51R15.eq_1,q51R16.eq_1,q51R18.eq_1,q51R19.eq_1,q51R20.eq_1,q51R17.eq_1,q51R21.eq_1,c_ref30_May.eq_1,c_ref30_May_L2.eq_1,hlt',hg,hln,b0,b1,b3,hR,hr,ka,q1,hj9',hc,hw]; tactic => (
          refine ih _ ?_
          (sym => simp [Qa,Qb,Qc,Qd,Qe,Qf,Qg,Qi,Qj,Qm,Qn,Qo,Qr,Qt,Qu,Qv,Q4,Q5,Xa,Xp,Xs,Xt,Xy,X5,X8,Ya,Yc,Yh,Yr,Ys,Yt,Yu,Yv,Yy,Yz,Y9,Za,Zb,Zc,Zd,Ze,Zg,Zh,Zk,Zl,Zm,Zn,Zo,Zt,Zv,Zw,Zx,Zy,Zz,Z0,Z1,Z3,Jb,Jj,Jk,Jl,Jm,Jn,Jo,Jp,Jr,Js,Jt,Ju,Jv,J1,J2,Ue,Uf,Ug,Ul,Ut,Ux,U4,U5,U7,Vb,Vk,Vm,Vo,Vp,Vq,Vr,Vs,Vt,Vu,Vv,Vw,Vx,Vy,Vz,V0,V6,V9,Wd,We,Hh,Hi,Hk,Hl,Ho,Hp,Hq,Hr,Hs,Ht,Hu,Hv,Hw,H1,H5,H6,Nc,Ne,Ni,Nk,Nl,Nm,No,Nw,Nx,Nz,N0,Be,Bh])))
theorem rses_P (s : Ses) (h : okS s) : aP G FT n_ref30_May [.agg (sC s)] = some (.bool (sesB s)) := by
  obtain ⟨hl1, hl2, hl3⟩ := h
  have hM := fun b f => rmay26_P G s.mem b f (by omega)
  have hT := fun b f => rmay_P G s.h s.tq b f hl2
  have hQ := fun b f => rmay28_P G s.q b f hl3
  have hW := rmay29_P G s.w
  have hA := fun b f => all_P G s.h s.tq b f hl2
  have e0 := sC_0 s
  have e3 := sC_3 s
  have e4 := sC_len s
  have e7 := sC_st s
  have e9 := sC_tk s
  have f0 := sC_w s
  have f2 := sC_22 s
  have f3 := sC_23 s
  have f8 := cW_v s.w
  unfold aP
  rw [run_ref30_May]
  cases h1 : mayM s.mem with
  | false => simp only [sesB, h1, Bool.false_and]; (sym => simp [Qb,Qc,Qd,Qe,Qf,Qg,Qi,Qj,Qm,Qn,Qo,Qr,Qt,Qu,Qw,Q4,Xa,Xd,Xp,Ya,Yc,Yj,Yr,Yt,Yu,Yv,Y1,Y5,Y7,Y9,Za,Zb,Zc,Ze,Zg,Zh,Zi,Zj,Zk,Zl,Zm,Zn,Zo,Zr,Zs,Zt,Zu,Zv,Zw,Zx,Zy,Zz,Z0,Z3,Jb,Jj,Jk,Jl,Jn,Jp,Jq,Jr,Jv,Jx,Ut,Ux,U4,U5,U7,Vb,Vk,Vm,Vo,Vp,Vq,Vr,Vs,Vt,Vu,Vv,Vw,Vx,Vy,Vz,V0,V3,V6,V9,Wd,We,Wk,Hh,Hp,Hv,Hw,H1,H5,H6,Nl,Nm,No,Nw,Nx,Be,q51R0.eq_1,q51R1.eq_1,q51R2.eq_1,q51R3.eq_1,q51R4.eq_1,q51R5.eq_1,q51R7.eq_1,q51R8.eq_1,q51R6.eq_1,q51R9.eq_1,q51R10.eq_1,q51R12.eq_1,q51R13.eq_1,q51R14.eq_1,q51R11.eq_1,q51R15.eq_1,q51R16.eq_1,q51R18.eq_1,q51R19.eq_1,q51R20.eq_1,q51R17.eq_1,q51R21.eq_1,c_ref30_May.eq_1,hM,h1,e0,e4,e7])
  | true =>
  cases h2 : mayT s.h s.tq with
  | false => simp only [sesB, h1, h2, Bool.false_and, Bool.true_and]; (sym => simp [Qb,Qc,Qd,Qe,Qf,Qg,Qi,Qj,Qm,Qn,Qo,Qr,Qt,Qu,Qw,Q4,Xa,Xd,Xp,Ya,Yc,Yj,Yr,Yt,Yu,Yv,Y1,Y5,Y7,Y9,Za,Zb,Zc,Ze,Zg,Zh,Zi,Zj,Zk,Zl,Zm,Zn,Zo,Zr,Zs,Zt,Zu,Zv,Zw,Zx,Zy,Zz,Z0,Z3,Jb,Jj,Jk,Jl,Jn,Jp,Jq,Jr,Jv,Jx,Ut,Ux,U4,U5,U7,Vb,Vk,Vm,Vo,Vp,Vq,Vr,Vs,Vt,Vu,Vv,Vw,Vx,Vy,Vz,V0,V3,V6,V9,Wd,We,Wk,Hh,Hp,Hv,Hw,H1,H5,H6,Nl,Nm,No,Nw,Nx,Be,q51R0.eq_1,q51R1.eq_1,q51R2.eq_1,q51R3.eq_1,q51R4.eq_1,q51R5.eq_1,q51R7.eq_1,q51R8.eq_1,q51R6.eq_1,q51R9.eq_1,q51R10.eq_1,q51R12.eq_1,q51R13.eq_1,q51R14.eq_1,q51R11.eq_1,q51R15.eq_1,q51R16.eq_1,q51R18.eq_1,q51R19.eq_1,q51R20.eq_1,q51R17.eq_1,q51R21.eq_1,c_ref30_May.eq_1,hM,h1,hT,h2,e0,e4,e7,e9])
  | true =>
  cases h3 : mayQ 0 s.q with
  | false => simp only [sesB, h1, h2, h3, Bool.false_and, Bool.true_and]; (sym => simp [Qb,Qc,Qd,Qe,Qf,Qg,Qi,Qj,Qm,Qn,Qo,Qr,Qt,Qu,Qw,Q4,Xa,Xd,Xp,Ya,Yc,Yj,Yr,Yt,Yu,Yv,Y1,Y5,Y7,Y9,Za,Zb,Zc,Ze,Zg,Zh,Zi,Zj,Zk,Zl,Zm,Zn,Zo,Zr,Zs,Zt,Zu,Zv,Zw,Zx,Zy,Zz,Z0,Z3,Jb,Jj,Jk,Jl,Jn,Jp,Jq,Jr,Jv,Jx,Ut,Ux,U4,U5,U7,Vb,Vk,Vm,Vo,Vp,Vq,Vr,Vs,Vt,Vu,Vv,Vw,Vx,Vy,Vz,V0,V3,V6,V9,Wd,We,Wk,Hh,Hp,Hv,Hw,H1,H5,H6,Nl,Nm,No,Nw,Nx,Be,q51R0.eq_1,q51R1.eq_1,q51R2.eq_1,q51R3.eq_1,q51R4.eq_1,q51R5.eq_1,q51R7.eq_1,q51R8.eq_1,q51R6.eq_1,q51R9.eq_1,q51R10.eq_1,q51R12.eq_1,q51R13.eq_1,q51R14.eq_1,q51R11.eq_1,q51R15.eq_1,q51R16.eq_1,q51R18.eq_1,q51R19.eq_1,q51R20.eq_1,q51R17.eq_1,q51R21.eq_1,c_ref30_May.eq_1,hM,h1,hT,h2,hQ,h3,e0,e3,e4,e7,e9])
  | true =>
  cases h4 : mayW s.w with
  | false => simp only [sesB, h1, h2, h3, h4, Bool.false_and, Bool.true_and]; (sym => simp [Qb,Qc,Qd,Qe,Qf,Qg,Qi,Qj,Qm,Qn,Qo,Qr,Qt,Qu,Qw,Q4,Xa,Xd,Xp,Ya,Yc,Yj,Yr,Yt,Yu,Yv,Y1,Y5,Y7,Y9,Za,Zb,Zc,Ze,Zg,Zh,Zi,Zj,Zk,Zl,Zm,Zn,Zo,Zr,Zs,Zt,Zu,Zv,Zw,Zx,Zy,Zz,Z0,Z3,Jb,Jj,Jk,Jl,Jn,Jp,Jq,Jr,Jv,Jx,Ut,Ux,U4,U5,U7,Vb,Vk,Vm,Vo,Vp,Vq,Vr,Vs,Vt,Vu,Vv,Vw,Vx,Vy,Vz,V0,V3,V6,V9,Wd,We,Wk,Hh,Hp,Hv,Hw,H1,H5,H6,Nl,Nm,No,Nw,Nx,Be,q51R0.eq_1,q51R1.eq_1,q51R2.eq_1,q51R3.eq_1,q51R4.eq_1,q51R5.eq_1,q51R7.eq_1,q51R8.eq_1,q51R6.eq_1,q51R9.eq_1,q51R10.eq_1,q51R12.eq_1,q51R13.eq_1,q51R14.eq_1,q51R11.eq_1,q51R15.eq_1,q51R16.eq_1,q51R18.eq_1,q51R19.eq_1,q51R20.eq_1,q51R17.eq_1,q51R21.eq_1,c_ref30_May.eq_1,hM,h1,hT,h2,hQ,h3,hW,h4,f0,f8,e0,e3,e4,e7,e9])
  | true =>
  have e2 : ((decide (s.h = 0) || wrB s.mem s.h) && !(s.tq.any fun id => !wrB s.mem id)) = (allT s.h s.tq).all fun x => decide (roleOf s.mem x = 2) := by
    rw [Bool.eq_iff_iff, Bool.and_eq_true, Bool.or_eq_true, decide_eq_true_eq, Bool.not_eq_true', List.any_eq_false, List.all_eq_true]
    have := tok_all (l := s.mem) h2
    constructor
    · rintro ⟨a, b⟩ x hx
      rw [decide_eq_true_eq]
      exact (wr_iff h1 x).1 (this.1 ⟨a, fun id hid => by simpa using b id hid⟩ x hx)
    · intro hh
      obtain ⟨a, b⟩ := this.2 fun x hx => (wr_iff h1 x).2 (by simpa using hh x hx)
      exact ⟨a, fun x hx => by simpa using b x hx⟩
  have go : sesB s = (sizB s && ((allT s.h s.tq).all fun x => decide (roleOf s.mem x = 2)) && tkFrom s 9 0 && !(s.q.any (outB s))) := by
    rw [← e2]
    simp only [sesB, h1, h2, h3, h4, Bool.true_and, Bool.and_assoc]
  rw [go]
  by_cases r1 : s.r < 1
  · have hs : sizB s = false := by simp [sizB]; omega
    simp only [hs, Bool.false_and]
    (sym => simp [Qb,Qc,Qd,Qe,Qf,Qg,Qi,Qj,Qm,Qn,Qo,Qr,Qt,Qu,Qw,Q4,Xa,Xd,Xp,Ya,Yc,Yj,Yr,Yt,Yu,Yv,Y1,Y5,Y7,Y9,Za,Zb,Zc,Ze,Zg,Zh,Zi,Zj,Zk,Zl,Zm,Zn,Zo,Zr,Zs,Zt,Zu,Zv,Zw,Zx,Zy,Zz,Z0,Z3,Jb,Jj,Jk,Jl,Jn,Jp,Jq,Jr,Jv,Jx,Ut,Ux,U4,U5,U7,Vb,Vk,Vm,Vo,Vp,Vq,Vr,Vs,Vt,Vu,Vv,Vw,Vx,Vy,Vz,V0,V3,V6,V9,Wd,We,Wk,Hh,Hp,Hv,Hw,H1,H5,H6,Nl,Nm,No,Nw,Nx,Be,q51R0.eq_1,q51R1.eq_1,q51R2.eq_1,q51R3.eq_1,q51R4.eq_1,q51R5.eq_1,q51R7.eq_1,q51R8.eq_1,q51R6.eq_1,q51R9.eq_1,q51R10.eq_1,q51R12.eq_1,q51R13.eq_1,q51R14.eq_1,q51R11.eq_1,q51R15.eq_1,q51R16.eq_1,q51R18.eq_1,q51R19.eq_1,q51R20.eq_1,q51R17.eq_1,q51R21.eq_1,c_ref30_May.eq_1,hM,h1,hT,h2,hQ,h3,hW,h4,f0,f8,e0,e3,e4,e7,e9,f2,r1])
  by_cases r2 : 24 < s.r
  · have hs : sizB s = false := by simp [sizB]; omega
    simp only [hs, Bool.false_and]
    (sym => simp [Qb,Qc,Qd,Qe,Qf,Qg,Qi,Qj,Qm,Qn,Qo,Qr,Qt,Qu,Qw,Q4,Xa,Xd,Xp,Ya,Yc,Yj,Yr,Yt,Yu,Yv,Y1,Y5,Y7,Y9,Za,Zb,Zc,Ze,Zg,Zh,Zi,Zj,Zk,Zl,Zm,Zn,Zo,Zr,Zs,Zt,Zu,Zv,Zw,Zx,Zy,Zz,Z0,Z3,Jb,Jj,Jk,Jl,Jn,Jp,Jq,Jr,Jv,Jx,Ut,Ux,U4,U5,U7,Vb,Vk,Vm,Vo,Vp,Vq,Vr,Vs,Vt,Vu,Vv,Vw,Vx,Vy,Vz,V0,V3,V6,V9,Wd,We,Wk,Hh,Hp,Hv,Hw,H1,H5,H6,Nl,Nm,No,Nw,Nx,Be,q51R0.eq_1,q51R1.eq_1,q51R2.eq_1,q51R3.eq_1,q51R4.eq_1,q51R5.eq_1,q51R7.eq_1,q51R8.eq_1,q51R6.eq_1,q51R9.eq_1,q51R10.eq_1,q51R12.eq_1,q51R13.eq_1,q51R14.eq_1,q51R11.eq_1,q51R15.eq_1,q51R16.eq_1,q51R18.eq_1,q51R19.eq_1,q51R20.eq_1,q51R17.eq_1,q51R21.eq_1,c_ref30_May.eq_1,hM,h1,hT,h2,hQ,h3,hW,h4,f0,f8,e0,e3,e4,e7,e9,f2,r1,r2])
  by_cases r3 : s.c < 1
  · have hs : sizB s = false := by simp [sizB]; omega
    simp only [hs, Bool.false_and]
    (sym => simp [Qb,Qc,Qd,Qe,Qf,Qg,Qi,Qj,Qm,Qn,Qo,Qr,Qt,Qu,Qw,Q4,Xa,Xd,Xp,Ya,Yc,Yj,Yr,Yt,Yu,Yv,Y1,Y5,Y7,Y9,Za,Zb,Zc,Ze,Zg,Zh,Zi,Zj,Zk,Zl,Zm,Zn,Zo,Zr,Zs,Zt,Zu,Zv,Zw,Zx,Zy,Zz,Z0,Z3,Jb,Jj,Jk,Jl,Jn,Jp,Jq,Jr,Jv,Jx,Ut,Ux,U4,U5,U7,Vb,Vk,Vm,Vo,Vp,Vq,Vr,Vs,Vt,Vu,Vv,Vw,Vx,Vy,Vz,V0,V3,V6,V9,Wd,We,Wk,Hh,Hp,Hv,Hw,H1,H5,H6,Nl,Nm,No,Nw,Nx,Be,q51R0.eq_1,q51R1.eq_1,q51R2.eq_1,q51R3.eq_1,q51R4.eq_1,q51R5.eq_1,q51R7.eq_1,q51R8.eq_1,q51R6.eq_1,q51R9.eq_1,q51R10.eq_1,q51R12.eq_1,q51R13.eq_1,q51R14.eq_1,q51R11.eq_1,q51R15.eq_1,q51R16.eq_1,q51R18.eq_1,q51R19.eq_1,q51R20.eq_1,q51R17.eq_1,q51R21.eq_1,c_ref30_May.eq_1,hM,h1,hT,h2,hQ,h3,hW,h4,f0,f8,e0,e3,e4,e7,e9,f2,f3,r1,r2,r3])
  by_cases r4 : 40 < s.c
  · have hs : sizB s = false := by simp [sizB]; omega
    simp only [hs, Bool.false_and]
    (sym => simp [Qb,Qc,Qd,Qe,Qf,Qg,Qi,Qj,Qm,Qn,Qo,Qr,Qt,Qu,Qw,Q4,Xa,Xd,Xp,Ya,Yc,Yj,Yr,Yt,Yu,Yv,Y1,Y5,Y7,Y9,Za,Zb,Zc,Ze,Zg,Zh,Zi,Zj,Zk,Zl,Zm,Zn,Zo,Zr,Zs,Zt,Zu,Zv,Zw,Zx,Zy,Zz,Z0,Z3,Jb,Jj,Jk,Jl,Jn,Jp,Jq,Jr,Jv,Jx,Ut,Ux,U4,U5,U7,Vb,Vk,Vm,Vo,Vp,Vq,Vr,Vs,Vt,Vu,Vv,Vw,Vx,Vy,Vz,V0,V3,V6,V9,Wd,We,Wk,Hh,Hp,Hv,Hw,H1,H5,H6,Nl,Nm,No,Nw,Nx,Be,q51R0.eq_1,q51R1.eq_1,q51R2.eq_1,q51R3.eq_1,q51R4.eq_1,q51R5.eq_1,q51R7.eq_1,q51R8.eq_1,q51R6.eq_1,q51R9.eq_1,q51R10.eq_1,q51R12.eq_1,q51R13.eq_1,q51R14.eq_1,q51R11.eq_1,q51R15.eq_1,q51R16.eq_1,q51R18.eq_1,q51R19.eq_1,q51R20.eq_1,q51R17.eq_1,q51R21.eq_1,c_ref30_May.eq_1,hM,h1,hT,h2,hQ,h3,hW,h4,f0,f8,e0,e3,e4,e7,e9,f2,f3,r1,r2,r3,r4])
  have hs : sizB s = true := by simp [sizB]; omega
  rw [hs, Bool.true_and]
  have hal : (allT s.h s.tq).length ≤ 2000 := by unfold allT; split <;> simp; omega
  have k0 := fun f => rses_loop0 G s (by omega) (allT s.h s.tq) f hal (allT s.h s.tq).length 0 (by omega)
  simp only [List.drop_zero, Int.natCast_zero] at k0
  cases ha : (allT s.h s.tq).all fun x => decide (roleOf s.mem x = 2) with
  | false =>
    simp only [ha, Bool.false_eq_true, if_false] at k0
    simp only [Bool.false_and]
    generalize sC s = scs at *
    (sym => simp [Qb,Qc,Qd,Qe,Qf,Qg,Qi,Qj,Qm,Qn,Qo,Qr,Qt,Qu,Qw,Q4,Xa,Xd,Xp,Ya,Yc,Yj,Yr,Yt,Yu,Yv,Y1,Y5,Y7,Y9,Za,Zb,Zc,Ze,Zg,Zh,Zi,Zj,Zk,Zl,Zm,Zn,Zo,Zr,Zs,Zt,Zu,Zv,Zw,Zx,Zy,Zz,Z0,Z3,Jb,Jj,Jk,Jl,Jn,Jp,Jq,Jr,Jv,Jx,Ut,Ux,U4,U5,U7,Vb,Vk,Vm,Vo,Vp,Vq,Vr,Vs,Vt,Vu,Vv,Vw,Vx,Vy,Vz,V0,V3,V6,V9,Wd,We,Wk,Hh,Hp,Hv,Hw,H1,H5,H6,Nl,Nm,No,Nw,Nx,Be,q51R0.eq_1,q51R1.eq_1,q51R2.eq_1,q51R3.eq_1,q51R4.eq_1,q51R5.eq_1,q51R7.eq_1,q51R8.eq_1,q51R6.eq_1,q51R9.eq_1,q51R10.eq_1,q51R12.eq_1,q51R13.eq_1,q51R14.eq_1,q51R11.eq_1,q51R15.eq_1,q51R16.eq_1,q51R18.eq_1,q51R19.eq_1,q51R20.eq_1,q51R17.eq_1,q51R21.eq_1,c_ref30_May.eq_1,hM,h1,hT,h2,hQ,h3,hW,h4,f0,f8,e0,e3,e4,e7,e9,f2,f3,r1,r2,r3,r4,hA,k0])
  | true =>
  simp only [ha, if_true] at k0
  rw [Bool.true_and]
  have k1 := rses_loop1 G s h1 9 0 rfl
  simp only [Int.natCast_zero] at k1
  have k1 := k1 ⟨[(1, .ptr 0 0 0 0), (5, .int .i64 0)], [⟨33, 0, true, [sC s]⟩]⟩ (by (sym => simp [Qb,Qc,Qd,Qe,Qf,Qg,Qi,Qj,Qm,Qn,Qo,Qr,Qt,Qu,Qw,Q4,Xa,Xd,Xp,Ya,Yc,Yj,Yr,Yt,Yu,Yv,Y1,Y5,Y7,Y9,Za,Zb,Zc,Ze,Zg,Zh,Zi,Zj,Zk,Zl,Zm,Zn,Zo,Zr,Zs,Zt,Zu,Zv,Zw,Zx,Zy,Zz,Z0,Z3,Jb,Jj,Jk,Jl,Jn,Jp,Jq,Jr,Jv,Jx,Ut,Ux,U4,U5,U7,Vb,Vk,Vm,Vo,Vp,Vq,Vr,Vs,Vt,Vu,Vv,Vw,Vx,Vy,Vz,V0,V3,V6,V9,Wd,We,Wk,Hh,Hp,Hv,Hw,H1,H5,H6,Nl,Nm,No,Nw,Nx,Be]))
  cases hb : tkFrom s 9 0 with
  | false =>
    simp only [hb, Bool.false_eq_true, if_false] at k1
    simp only [Bool.false_and]
    generalize sC s = scs at *
    (sym => simp [Qb,Qc,Qd,Qe,Qf,Qg,Qi,Qj,Qm,Qn,Qo,Qr,Qt,Qu,Qw,Q4,Xa,Xd,Xp,Ya,Yc,Yj,Yr,Yt,Yu,Yv,Y1,Y5,Y7,Y9,Za,Zb,Zc,Ze,Zg,Zh,Zi,Zj,Zk,Zl,Zm,Zn,Zo,Zr,Zs,Zt,Zu,Zv,Zw,Zx,Zy,Zz,Z0,Z3,Jb,Jj,Jk,Jl,Jn,Jp,Jq,Jr,Jv,Jx,Ut,Ux,U4,U5,U7,Vb,Vk,Vm,Vo,Vp,Vq,Vr,Vs,Vt,Vu,Vv,Vw,Vx,Vy,Vz,V0,V3,V6,V9,Wd,We,Wk,Hh,Hp,Hv,Hw,H1,H5,H6,Nl,Nm,No,Nw,Nx,Be,q51R0.eq_1,q51R1.eq_1,q51R2.eq_1,q51R3.eq_1,q51R4.eq_1,q51R5.eq_1,q51R7.eq_1,q51R8.eq_1,q51R6.eq_1,q51R9.eq_1,q51R10.eq_1,q51R12.eq_1,q51R13.eq_1,q51R14.eq_1,q51R11.eq_1,q51R15.eq_1,q51R16.eq_1,q51R18.eq_1,q51R19.eq_1,q51R20.eq_1,q51R17.eq_1,q51R21.eq_1,c_ref30_May.eq_1,hM,h1,hT,h2,hQ,h3,hW,h4,f0,f8,e0,e3,e4,e7,e9,f2,f3,r1,r2,r3,r4,hA,k0,k1])
  | true =>
  simp only [hb, if_true] at k1
  rw [Bool.true_and]
  obtain ⟨h', k2⟩ := rses_loop2 G s h1 h3 hl3.1 s.q.length 0 (by omega)
  simp only [Int.natCast_zero, List.drop_zero] at k2
  have k2 := k2 ⟨[(1, .ptr 0 0 0 0), (7, .int .i64 0)], [⟨33, 0, true, [sC s]⟩]⟩ (by (sym => simp [Qb,Qc,Qd,Qe,Qf,Qg,Qi,Qj,Qm,Qn,Qo,Qr,Qt,Qu,Qw,Q4,Xa,Xd,Xp,Ya,Yc,Yj,Yr,Yt,Yu,Yv,Y1,Y5,Y7,Y9,Za,Zb,Zc,Ze,Zg,Zh,Zi,Zj,Zk,Zl,Zm,Zn,Zo,Zr,Zs,Zt,Zu,Zv,Zw,Zx,Zy,Zz,Z0,Z3,Jb,Jj,Jk,Jl,Jn,Jp,Jq,Jr,Jv,Jx,Ut,Ux,U4,U5,U7,Vb,Vk,Vm,Vo,Vp,Vq,Vr,Vs,Vt,Vu,Vv,Vw,Vx,Vy,Vz,V0,V3,V6,V9,Wd,We,Wk,Hh,Hp,Hv,Hw,H1,H5,H6,Nl,Nm,No,Nw,Nx,Be]))
  cases hc : s.q.any (outB s) with
  | true =>
    simp only [hc, if_true] at k2
    generalize sC s = scs at *
    (sym => simp [Qb,Qc,Qd,Qe,Qf,Qg,Qi,Qj,Qm,Qn,Qo,Qr,Qt,Qu,Qw,Q4,Xa,Xd,Xp,Ya,Yc,Yj,Yr,Yt,Yu,Yv,Y1,Y5,Y7,Y9,Za,Zb,Zc,Ze,Zg,Zh,Zi,Zj,Zk,Zl,Zm,Zn,Zo,Zr,Zs,Zt,Zu,Zv,Zw,Zx,Zy,Zz,Z0,Z3,Jb,Jj,Jk,Jl,Jn,Jp,Jq,Jr,Jv,Jx,Ut,Ux,U4,U5,U7,Vb,Vk,Vm,Vo,Vp,Vq,Vr,Vs,Vt,Vu,Vv,Vw,Vx,Vy,Vz,V0,V3,V6,V9,Wd,We,Wk,Hh,Hp,Hv,Hw,H1,H5,H6,Nl,Nm,No,Nw,Nx,Be,q51R0.eq_1,q51R1.eq_1,q51R2.eq_1,q51R3.eq_1,q51R4.eq_1,q51R5.eq_1,q51R7.eq_1,q51R8.eq_1,q51R6.eq_1,q51R9.eq_1,q51R10.eq_1,q51R12.eq_1,q51R13.eq_1,q51R14.eq_1,q51R11.eq_1,q51R15.eq_1,q51R16.eq_1,q51R18.eq_1,q51R19.eq_1,q51R20.eq_1,q51R17.eq_1,q51R21.eq_1,c_ref30_May.eq_1,hM,h1,hT,h2,hQ,h3,hW,h4,f0,f8,e0,e3,e4,e7,e9,f2,f3,r1,r2,r3,r4,hA,k0,k1,k2])
  | false =>
    simp only [hc, Bool.false_eq_true, if_false] at k2
    generalize sC s = scs at *
    (sym => simp [Qb,Qc,Qd,Qe,Qf,Qg,Qi,Qj,Qm,Qn,Qo,Qr,Qt,Qu,Qw,Q4,Xa,Xd,Xp,Ya,Yc,Yj,Yr,Yt,Yu,Yv,Y1,Y5,Y7,Y9,Za,Zb,Zc,Ze,Zg,Zh,Zi,Zj,Zk,Zl,Zm,Zn,Zo,Zr,Zs,Zt,Zu,Zv,Zw,Zx,Zy,Zz,Z0,Z3,Jb,Jj,Jk,Jl,Jn,Jp,Jq,Jr,Jv,Jx,Ut,Ux,U4,U5,U7,Vb,Vk,Vm,Vo,Vp,Vq,Vr,Vs,Vt,Vu,Vv,Vw,Vx,Vy,Vz,V0,V3,V6,V9,Wd,We,Wk,Hh,Hp,Hv,Hw,H1,H5,H6,Nl,Nm,No,Nw,Nx,Be,q51R0.eq_1,q51R1.eq_1,q51R2.eq_1,q51R3.eq_1,q51R4.eq_1,q51R5.eq_1,q51R7.eq_1,q51R8.eq_1,q51R6.eq_1,q51R9.eq_1,q51R10.eq_1,q51R12.eq_1,q51R13.eq_1,q51R14.eq_1,q51R11.eq_1,q51R15.eq_1,q51R16.eq_1,q51R18.eq_1,q51R19.eq_1,q51R20.eq_1,q51R17.eq_1,q51R21.eq_1,c_ref30_May.eq_1,hM,h1,hT,h2,hQ,h3,hW,h4,f0,f8,e0,e3,e4,e7,e9,f2,f3,r1,r2,r3,r4,hA,k0,k1,k2])
end Go.Proofs.YthcnhibjddomdaaGreat
