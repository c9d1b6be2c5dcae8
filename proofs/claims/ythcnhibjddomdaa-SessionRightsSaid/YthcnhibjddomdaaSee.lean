/- Sessions: Take, Write. Conditions: as each statement says. -/
import Derived.Test.YthcnhibjddomdaaSed
set_option linter.unusedVariables false
set_option linter.unusedSimpArgs false
set_option linter.unusedSectionVars false
set_option maxRecDepth 20000
set_option maxHeartbeats 8000000
namespace Go.Proofs.Ythcnhibjddomdaa
open Go
variable (G : Nat → Option (List AV))
theorem tkFrom_at (s : Ses) : ∀ (m i : Nat), tkFrom s m i = true → ∀ j, i ≤ j → j < i + m → tkB s j = true := by
  intro m
  induction m with
  | zero => intro i _ j h1 h2; omega
  | succ m ih =>
    intro i h j h1 h2
    rw [tkFrom, Bool.and_eq_true] at h
    by_cases e : j = i
    · rw [e]; exact h.1
    · exact ih (i + 1) h.2 j (by omega) (by omega)
theorem ses_parts {s : Ses} (h : sesB s = true) : mayM s.mem = true ∧ mayT s.h s.tq = true ∧ mayQ 0 s.q = true ∧ mayW s.w = true ∧ sizB s = true ∧ (s.h = 0 ∨ wrB s.mem s.h = true) ∧ (∀ id ∈ s.tq, wrB s.mem id = true) ∧ (∀ j, j < 9 → tkB s j = true) ∧ (∀ t ∈ s.q, outB s t = false) := by
  simp only [sesB, Bool.and_eq_true, Bool.or_eq_true, decide_eq_true_eq, Bool.not_eq_true', List.any_eq_false, Bool.not_eq_true] at h
  obtain ⟨⟨⟨⟨⟨⟨⟨⟨h1, h2⟩, h3⟩, h4⟩, h5⟩, h6⟩, h7⟩, h8⟩, h9⟩ := h
  exact ⟨h1, h2, h3, h4, h5, h6, fun id hi => by simpa using h7 id hi, fun j hj => tkFrom_at s 9 0 h8 j (by omega) (by omega), fun t ht => by simpa using h9 t ht⟩
theorem cnt_range {s : Ses} (h : sesB s = true) (j : Nat) (hj : j < 9) : 0 ≤ s.k j ∧ s.k j ≤ 1073741824 := by
  have := (ses_parts h).2.2.2.2.2.2.2.1 j hj
  simp only [tkB, Bool.and_eq_true, Bool.not_eq_true', decide_eq_false_iff_not] at this
  omega
/-- A session that took a deed. -/
def takeS (s : Ses) (id n : Int) (d : Dd) : Ses × Int :=
  if sesB s = true then
    if thereB s.mem id = true then
      if 1073741824 ≤ s.k id.toNat ∨ ¬ n = s.k id.toNat + 1 then (zS, 300)
      else if deedD d = true then (doS (cntS (cpS s) id.toNat n) id.toNat n d, 0) else (zS, 2)
    else (zS, 6)
  else (zS, 2)
theorem doS_f (s : Ses) (hf : s.f1 = false ∧ s.f2 = false ∧ s.f3 = false) (j : Nat) (n : Int) (d : Dd) : (doS s j n d).f1 = false ∧ (doS s j n d).f2 = false ∧ (doS s j n d).f3 = false := by
  obtain ⟨h1, h2, h3⟩ := hf
  unfold doS
  split
  · split
    · exact ⟨h1, h2, rfl⟩
    · exact ⟨h1, h2, h3⟩
  split
  · exact ⟨rfl, rfl, rfl⟩
  split
  · split
    · exact ⟨h1, rfl, h3⟩
    · exact ⟨h1, h2, h3⟩
  · exact ⟨h1, rfl, h3⟩
theorem sC_fz {s : Ses} (hf : s.f1 = false ∧ s.f2 = false ∧ s.f3 = false) (h : List ARow) : afreezeL h (sC s) = some (sC s) := by
  obtain ⟨h1, h2, h3⟩ := hf
  simp [sC, cellsW, cellsK, afreezeL, afreeze, h1, h2, h3]
theorem take30_P (s : Ses) (h : okS s) (id n : Int) (d : Dd) (hdl : d.2.1.length ≤ 1000) : aP G FT n_session_Take [.agg (sC s), .int .i64 id, .int .i64 n, .agg (dC d)] = some (.tup [.agg (sC (takeS s id n d).1), .int .i64 (takeS s id n d).2]) := by
  have hM := smay30_P G s h
  have hF := fun b f => find_P G s.mem b f id (by have := h.1; omega)
  have a1 := sC_len s
  have a2 := sC_st s
  have a3 := sC_all s
  have a4 := sC_v s
  have a5 := sC_0 s
  have a6 : (sC s).drop 33 = [] := rfl
  have b1 : (dC d).length = 4 := rfl
  have b2 : AV.stableL (dC d) = true := by simp [dC, AV.stableL, AV.stable]
  have b3 : (dC d).take 4 = dC d := rfl
  have b4 : ∀ h, aviewL h (dC d) = some (dC d) := fun h => by simp [dC, aviewL, aview]
  have z : sC zS = (.data false 2 [] false :: .int .i64 0 :: .data false 1 [] false :: .data false 3 [] false :: .int .i64 0 :: .int .i64 0 :: .int .i64 0 :: .int .i64 0 :: .int .i64 0 :: .int .i64 0 :: .int .i64 0 :: .int .i64 0 :: .int .i64 0 :: .int .i64 0 :: .int .i64 0 :: .int .i64 0 :: .int .i64 0 :: .int .i64 0 :: .int .i64 0 :: .int .i64 0 :: .int .i64 0 :: .int .i64 0 :: .int .i64 0 :: .int .i64 0 :: .int .i64 0 :: .int .i64 0 :: .int .i64 0 :: .int .i64 0 :: .int .i64 0 :: .int .i64 0 :: .int .i64 0 :: .int .i64 0 :: .int .i64 0 :: []) := rfl
  unfold aP takeS
  rw [run_session_Take]
  cases hs : sesB s with
  | false =>
    rw [if_neg (by simp)]
    simp only [z]
    generalize dC d = D at *
    (sym => simp [Qb,Qc,Qd,Qe,Qf,Qg,Qi,Qj,Qm,Qn,Qo,Qp,Qq,Qr,Qt,Qu,Qv,Qw,Qx,Q1,Q4,Q5,Xa,Xc,Xd,Xp,Xt,Xw,Xx,X5,X9,Yd,Yj,Yr,Yt,Yu,Yv,Yz,Y1,Y6,Y7,Y8,Y9,Za,Zb,Zc,Zd,Ze,Zg,Zh,Zi,Zj,Zk,Zl,Zm,Zn,Zo,Zq,Zr,Zs,Zt,Zu,Zv,Zw,Zy,Z0,Z1,Z3,Jb,Jh,Jj,Jk,Jl,Jr,Jv,Jx,J1,J2,J3,Ko,Kq,K8,Ue,Uf,Ug,Ul,V3,V6,V9,Wd,We,Wg,Wh,Wi,Wj,Wp,Wq,Hh,Hi,Hk,Hl,Ho,Hp,Hq,Hr,Hs,Ht,Hu,Hv,Hw,Hx,Nc,Ne,Ni,Nk,Nl,Nm,No,Nw,Nx,Nz,N0,Be,Bh,q42R0.eq_1,q42R1.eq_1,q42R2.eq_1,q42R3.eq_1,q42R4.eq_1,q42R5.eq_1,q42R6.eq_1,q42R7.eq_1,q42R8.eq_1,q42R9.eq_1,q42R10.eq_1,q42R11.eq_1,q42R12.eq_1,q42R13.eq_1,c_session_Take.eq_1,hM,hs,a1,a2,a3,a4,b1,b2])
  | true =>
    rw [if_pos rfl]
    cases ht : thereB s.mem id with
    | false =>
      rw [ht] at hF
      simp only [Bool.false_eq_true, if_false] at hF
      rw [if_neg (by simp)]
      simp only [z]
      generalize dC d = D at *
      (sym => simp [Qb,Qc,Qd,Qe,Qf,Qg,Qi,Qj,Qm,Qn,Qo,Qp,Qq,Qr,Qt,Qu,Qv,Qw,Qx,Q1,Q4,Q5,Xa,Xc,Xd,Xp,Xt,Xw,Xx,X5,X9,Yd,Yj,Yr,Yt,Yu,Yv,Yz,Y1,Y6,Y7,Y8,Y9,Za,Zb,Zc,Zd,Ze,Zg,Zh,Zi,Zj,Zk,Zl,Zm,Zn,Zo,Zq,Zr,Zs,Zt,Zu,Zv,Zw,Zy,Z0,Z1,Z3,Jb,Jh,Jj,Jk,Jl,Jr,Jv,Jx,J1,J2,J3,Ko,Kq,K8,Ue,Uf,Ug,Ul,V3,V6,V9,Wd,We,Wg,Wh,Wi,Wj,Wp,Wq,Hh,Hi,Hk,Hl,Ho,Hp,Hq,Hr,Hs,Ht,Hu,Hv,Hw,Hx,Nc,Ne,Ni,Nk,Nl,Nm,No,Nw,Nx,Nz,N0,Be,Bh,q42R0.eq_1,q42R1.eq_1,q42R2.eq_1,q42R3.eq_1,q42R4.eq_1,q42R5.eq_1,q42R6.eq_1,q42R7.eq_1,q42R8.eq_1,q42R9.eq_1,q42R10.eq_1,q42R11.eq_1,q42R12.eq_1,q42R13.eq_1,c_session_Take.eq_1,hM,hs,hF,a1,a2,a3,a4,a5,b1,b2])
    | true =>
      rw [ht] at hF
      simp only [if_true] at hF
      rw [if_pos rfl]
      have hid : idB id = true := by simp [thereB] at ht; exact ht.1.2
      obtain ⟨i1, i8⟩ : 1 ≤ id ∧ id ≤ 8 := by simpa [idB] using hid
      obtain ⟨j, hj⟩ : ∃ j : Nat, id = (j : Int) := ⟨id.toNat, by omega⟩
      have hn : id.toNat = j := by omega
      rw [hn]
      rw [hj] at hF
      rw [hj]
      have hj9 : j < 9 := by omega
      have hj9' : (j : Int) < 9 := by omega
      have hb : 24 + j < 33 := by omega
      have hka := sC_kat s hj9
      have hr := cnt_range hs j hj9
      have hw : IntKind.i64.wrap (s.k j + 1) = s.k j + 1 := wrap_in _ (by omega) (by omega)
      by_cases c1 : 1073741824 ≤ s.k j
      · rw [if_pos (.inl c1)]
        simp only [z]
        generalize dC d = D at *
        (sym => simp [Qb,Qc,Qd,Qe,Qf,Qg,Qi,Qj,Qm,Qn,Qo,Qp,Qq,Qr,Qt,Qu,Qv,Qw,Qx,Q1,Q4,Q5,Xa,Xc,Xd,Xp,Xt,Xw,Xx,X5,X9,Yd,Yj,Yr,Yt,Yu,Yv,Yz,Y1,Y6,Y7,Y8,Y9,Za,Zb,Zc,Zd,Ze,Zg,Zh,Zi,Zj,Zk,Zl,Zm,Zn,Zo,Zq,Zr,Zs,Zt,Zu,Zv,Zw,Zy,Z0,Z1,Z3,Jb,Jh,Jj,Jk,Jl,Jr,Jv,Jx,J1,J2,J3,Ko,Kq,K8,Ue,Uf,Ug,Ul,V3,V6,V9,Wd,We,Wg,Wh,Wi,Wj,Wp,Wq,Hh,Hi,Hk,Hl,Ho,Hp,Hq,Hr,Hs,Ht,Hu,Hv,Hw,Hx,Nc,Ne,Ni,Nk,Nl,Nm,No,Nw,Nx,Nz,N0,Be,Bh,q42R0.eq_1,q42R1.eq_1,q42R2.eq_1,q42R3.eq_1,q42R4.eq_1,q42R5.eq_1,q42R6.eq_1,q42R7.eq_1,q42R8.eq_1,q42R9.eq_1,q42R10.eq_1,q42R11.eq_1,q42R12.eq_1,q42R13.eq_1,c_session_Take.eq_1,hM,hs,hF,hka,hj9',hb,c1,a1,a2,a3,a4,a5,b1,b2])
      by_cases c2 : n = s.k j + 1
      · rw [if_neg (by rintro (h | h); exact c1 h; exact h c2)]
        cases hd : deedD d with
        | false =>
          rw [if_neg (by simp)]
          have hD := fun e0 e1 e2 e3 => does_false G d hd j n e0 e1 e2 e3
          simp only [rows4, rows9] at hD
          simp only [z]
          generalize dC d = D at *
          rw [c2] at hD ⊢
          (sym => simp [Qb,Qc,Qd,Qe,Qf,Qg,Qi,Qj,Qm,Qn,Qo,Qp,Qq,Qr,Qt,Qu,Qv,Qw,Qx,Q1,Q4,Q5,Xa,Xc,Xd,Xp,Xt,Xw,Xx,X5,X9,Yd,Yj,Yr,Yt,Yu,Yv,Yz,Y1,Y6,Y7,Y8,Y9,Za,Zb,Zc,Zd,Ze,Zg,Zh,Zi,Zj,Zk,Zl,Zm,Zn,Zo,Zq,Zr,Zs,Zt,Zu,Zv,Zw,Zy,Z0,Z1,Z3,Jb,Jh,Jj,Jk,Jl,Jr,Jv,Jx,J1,J2,J3,Ko,Kq,K8,Ue,Uf,Ug,Ul,V3,V6,V9,Wd,We,Wg,Wh,Wi,Wj,Wp,Wq,Hh,Hi,Hk,Hl,Ho,Hp,Hq,Hr,Hs,Ht,Hu,Hv,Hw,Hx,Nc,Ne,Ni,Nk,Nl,Nm,No,Nw,Nx,Nz,N0,Be,Bh,q42R0.eq_1,q42R1.eq_1,q42R2.eq_1,q42R3.eq_1,q42R4.eq_1,q42R5.eq_1,q42R6.eq_1,q42R7.eq_1,q42R8.eq_1,q42R9.eq_1,q42R10.eq_1,q42R11.eq_1,q42R12.eq_1,q42R13.eq_1,c_session_Take.eq_1,hM,hs,hF,hka,hj9',hb,c1,hw,hD,a1,a2,a3,a4,a5,b1,b2,b3,b4])
        | true =>
          rw [if_pos rfl]
          have hD := fun e0 e1 e2 e3 => does_true G d hd j n e0 e1 e2 e3
          simp only [rows4, rows9] at hD
          have hC := copied30_P G s h
          have ok2 : okS (cpS s) := ⟨h.1, h.2.1, okL_pop h.2.2 (-1)⟩
          have w2 : mayW (cntS (cpS s) j n).w = true := (ses_parts hs).2.2.2.1
          have hR := fun e0 e1 e2 e3 => doF_run G (cntS (cpS s) j n) ok2 w2 j (by omega) (by omega) n d hd hdl e0 e1 e2 e3
          have kc := cntS_eq (cpS s) hj9 n
          have c3 := sC_len (cpS s)
          have c4 := sC_st (cpS s)
          have c5 := sC_all (cpS s)
          have c6 : (sC (cpS s)).drop 33 = [] := rfl
          have g1 := sC_len (cntS (cpS s) j n)
          have g3 := sC_all (cntS (cpS s) j n)
          have hfd := doS_f (cntS (cpS s) j n) ⟨rfl, rfl, rfl⟩ j n d
          have x4 := sC_fz hfd
          generalize cntS (cpS s) j n = s2 at *
          have x1 := sC_len (doS s2 j n d)
          have x2 := sC_st (doS s2 j n d)
          have x3 := sC_all (doS s2 j n d)
          have x6 : (sC (doS s2 j n d)).drop 33 = [] := rfl
          obtain ⟨f, cs, e, k1, k2⟩ := hR [sC s2] [dC d] [(.data false 2 [] true :: .int .i64 0 :: .data false 1 [] true :: .data false 3 [] true :: .int .i64 0 :: .int .i64 0 :: .int .i64 0 :: .int .i64 0 :: .int .i64 0 :: .int .i64 0 :: .int .i64 0 :: .int .i64 0 :: .int .i64 0 :: .int .i64 0 :: .int .i64 0 :: .int .i64 0 :: .int .i64 0 :: .int .i64 0 :: .int .i64 0 :: .int .i64 0 :: .int .i64 0 :: .int .i64 0 :: .int .i64 0 :: .int .i64 0 :: .int .i64 0 :: .int .i64 0 :: .int .i64 0 :: .int .i64 0 :: .int .i64 0 :: .int .i64 0 :: .int .i64 0 :: .int .i64 0 :: .int .i64 0 :: [])] [[.int .i64 j, .int .i64 (roleOf s.mem j)]]
          simp only [rows9] at k2
          rw [k1] at hD
          generalize doS s2 j n d = s3 at *
          generalize dC d = D at *
          have c2' : n ≠ s.k j + 1 ↔ False := by simp [c2]
          rw [c2] at *
          (sym => simp [Qb,Qc,Qd,Qe,Qf,Qg,Qi,Qj,Qm,Qn,Qo,Qp,Qq,Qr,Qt,Qu,Qv,Qw,Qx,Q1,Q4,Q5,Xa,Xc,Xd,Xp,Xt,Xw,Xx,X5,X9,Yd,Yj,Yr,Yt,Yu,Yv,Yz,Y1,Y6,Y7,Y8,Y9,Za,Zb,Zc,Zd,Ze,Zg,Zh,Zi,Zj,Zk,Zl,Zm,Zn,Zo,Zq,Zr,Zs,Zt,Zu,Zv,Zw,Zy,Z0,Z1,Z3,Jb,Jh,Jj,Jk,Jl,Jr,Jv,Jx,J1,J2,J3,Ko,Kq,K8,Ue,Uf,Ug,Ul,V3,V6,V9,Wd,We,Wg,Wh,Wi,Wj,Wp,Wq,Hh,Hi,Hk,Hl,Ho,Hp,Hq,Hr,Hs,Ht,Hu,Hv,Hw,Hx,Nc,Ne,Ni,Nk,Nl,Nm,No,Nw,Nx,Nz,N0,Be,Bh,q42R0.eq_1,q42R1.eq_1,q42R2.eq_1,q42R3.eq_1,q42R4.eq_1,q42R5.eq_1,q42R6.eq_1,q42R7.eq_1,q42R8.eq_1,q42R9.eq_1,q42R10.eq_1,q42R11.eq_1,q42R12.eq_1,q42R13.eq_1,c_session_Take.eq_1,hM,hs,hF,hka,hj9',hb,c1,hw,hD,hC,kc,k2,a1,a2,a3,a4,a5,a6,b1,b2,b3,b4,c3,c4,c5,c6,g1,g3,x1,x2,x3,x4,x6,List.append_nil])
      · rw [if_pos (.inr c2)]
        simp only [z]
        generalize dC d = D at *
        (sym => simp [Qb,Qc,Qd,Qe,Qf,Qg,Qi,Qj,Qm,Qn,Qo,Qp,Qq,Qr,Qt,Qu,Qv,Qw,Qx,Q1,Q4,Q5,Xa,Xc,Xd,Xp,Xt,Xw,Xx,X5,X9,Yd,Yj,Yr,Yt,Yu,Yv,Yz,Y1,Y6,Y7,Y8,Y9,Za,Zb,Zc,Zd,Ze,Zg,Zh,Zi,Zj,Zk,Zl,Zm,Zn,Zo,Zq,Zr,Zs,Zt,Zu,Zv,Zw,Zy,Z0,Z1,Z3,Jb,Jh,Jj,Jk,Jl,Jr,Jv,Jx,J1,J2,J3,Ko,Kq,K8,Ue,Uf,Ug,Ul,V3,V6,V9,Wd,We,Wg,Wh,Wi,Wj,Wp,Wq,Hh,Hi,Hk,Hl,Ho,Hp,Hq,Hr,Hs,Ht,Hu,Hv,Hw,Hx,Nc,Ne,Ni,Nk,Nl,Nm,No,Nw,Nx,Nz,N0,Be,Bh,q42R0.eq_1,q42R1.eq_1,q42R2.eq_1,q42R3.eq_1,q42R4.eq_1,q42R5.eq_1,q42R6.eq_1,q42R7.eq_1,q42R8.eq_1,q42R9.eq_1,q42R10.eq_1,q42R11.eq_1,q42R12.eq_1,q42R13.eq_1,c_session_Take.eq_1,hM,hs,hF,hka,hj9',hb,c1,c2,hw,a1,a2,a3,a4,a5,b1,b2])
/-- Without the first pieces, and these. -/
def writeS (s : Ses) (n : Int) : Ses × List Pc := if sesB s = true then (queS (cpS s) (popM (cpS s).q n).1, (popM (cpS s).q n).2) else (zS, [])
theorem write30_P (s : Ses) (h : okS s) (n : Int) (hn : n ≤ 9223372036854775807) : aP G FT n_session_Write [.agg (sC s), .int .i64 n] = some (.tup [.agg (sC (writeS s n).1), .data false 3 (pcs (writeS s n).2) false]) := by
  have hM := smay30_P G s h
  have a1 := sC_len s
  have a2 := sC_st s
  have a3 := sC_all s
  have a4 := sC_v s
  have a6 : (sC s).drop 33 = [] := rfl
  have z : sC zS = (.data false 2 [] false :: .int .i64 0 :: .data false 1 [] false :: .data false 3 [] false :: .int .i64 0 :: .int .i64 0 :: .int .i64 0 :: .int .i64 0 :: .int .i64 0 :: .int .i64 0 :: .int .i64 0 :: .int .i64 0 :: .int .i64 0 :: .int .i64 0 :: .int .i64 0 :: .int .i64 0 :: .int .i64 0 :: .int .i64 0 :: .int .i64 0 :: .int .i64 0 :: .int .i64 0 :: .int .i64 0 :: .int .i64 0 :: .int .i64 0 :: .int .i64 0 :: .int .i64 0 :: .int .i64 0 :: .int .i64 0 :: .int .i64 0 :: .int .i64 0 :: .int .i64 0 :: .int .i64 0 :: .int .i64 0 :: []) := rfl
  unfold aP writeS
  rw [run_session_Write]
  cases hs : sesB s with
  | false =>
    rw [if_neg (by simp)]
    simp only [z, pcs_nil]
    (sym => simp [Qb,Qc,Qd,Qe,Qi,Qj,Qm,Qn,Qo,Qr,Qt,Qv,Qw,Qx,Q1,Q4,Q5,Xd,Xp,Xw,Xx,Yj,Yr,Yt,Yu,Yv,Y1,Y6,Y7,Y8,Y9,Za,Zb,Zc,Zd,Ze,Zg,Zh,Zi,Zj,Zk,Zl,Zm,Zn,Zo,Zr,Zs,Zt,Zu,Zv,Zw,Zy,Z0,Z1,Z3,Jj,Jk,Jl,Jr,Jv,Jx,J1,J2,J6,K8,Ue,Uf,Ug,Ul,V3,V6,V9,Wd,We,Wg,Wh,Wi,Wj,Wp,Wq,Hh,Hi,Hk,Hl,Ho,Hp,Hq,Hr,Hs,Ht,Hu,Hv,Hw,No,Nw,Nx,N0,Be,q43R0.eq_1,q43R1.eq_1,q43R2.eq_1,q43R3.eq_1,q43R4.eq_1,q43R5.eq_1,q43R6.eq_1,c_session_Write.eq_1,hM,hs,a1,a2,a3,a4])
  | true =>
    rw [if_pos rfl]
    have hC := copied30_P G s h
    have hP := fun b f => pop_P G (cpS s).q b f (okL_pop h.2.2 (-1)) n hn
    have q := queS_eq (cpS s) (popM (cpS s).q n).1
    have b3 := sC_3 (cpS s)
    have c3 := sC_len (cpS s)
    have c4 := sC_st (cpS s)
    have c5 := sC_all (cpS s)
    have c6 : (sC (cpS s)).drop 33 = [] := rfl
    have x1 := sC_len (queS (cpS s) (popM (cpS s).q n).1)
    have x2 := sC_st (queS (cpS s) (popM (cpS s).q n).1)
    have x3 := sC_all (queS (cpS s) (popM (cpS s).q n).1)
    have x4 := sC_fz (s := queS (cpS s) (popM (cpS s).q n).1) ⟨rfl, rfl, rfl⟩
    have x6 : (sC (queS (cpS s) (popM (cpS s).q n).1)).drop 33 = [] := rfl
    generalize queS (cpS s) (popM (cpS s).q n).1 = s3 at *
    generalize cpS s = s2 at *
    (sym => simp [Qb,Qc,Qd,Qe,Qi,Qj,Qm,Qn,Qo,Qr,Qt,Qv,Qw,Qx,Q1,Q4,Q5,Xd,Xp,Xw,Xx,Yj,Yr,Yt,Yu,Yv,Y1,Y6,Y7,Y8,Y9,Za,Zb,Zc,Zd,Ze,Zg,Zh,Zi,Zj,Zk,Zl,Zm,Zn,Zo,Zr,Zs,Zt,Zu,Zv,Zw,Zy,Z0,Z1,Z3,Jj,Jk,Jl,Jr,Jv,Jx,J1,J2,J6,K8,Ue,Uf,Ug,Ul,V3,V6,V9,Wd,We,Wg,Wh,Wi,Wj,Wp,Wq,Hh,Hi,Hk,Hl,Ho,Hp,Hq,Hr,Hs,Ht,Hu,Hv,Hw,No,Nw,Nx,N0,Be,q43R0.eq_1,q43R1.eq_1,q43R2.eq_1,q43R3.eq_1,q43R4.eq_1,q43R5.eq_1,q43R6.eq_1,c_session_Write.eq_1,hM,hs,hC,hP,q,b3,a1,a2,a3,a4,a6,c3,c4,c5,c6,x1,x2,x3,x4,x6,List.append_nil])
end Go.Proofs.Ythcnhibjddomdaa
