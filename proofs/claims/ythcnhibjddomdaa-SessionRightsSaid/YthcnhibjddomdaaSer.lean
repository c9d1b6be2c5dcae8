/- SessionRights: the law. Conditions: as each statement says. -/
import Derived.Test.YthcnhibjddomdaaSeh
import Derived.Test.YthcnhibjddomdaaSeq
set_option linter.unusedVariables false
set_option linter.unusedSimpArgs false
set_option linter.unusedSectionVars false
set_option maxRecDepth 20000
set_option maxHeartbeats 8000000
namespace Go.Proofs.Ythcnhibjddomdaa
open Go
variable (G : Nat → Option (List AV))
def RiOut (l : List Rst) (f : Bool) (r : Option (AEx × ASt)) : Prop :=
  (∃ h, r = some (.ret, ⟨[(2, .bool true)], h⟩)) ∨ ∃ (s : Ses) (P : List (List AV)) (a n : Nat), r = some (.exit 0, ⟨[(0, .data false 8 (rsts l) f), (3, .ptr 0 0 0 0), (4, .own 1 0 a n n), (5, .int .i64 l.length), (23, .bool false)], [⟨33, 0, true, [sC s]⟩, ⟨3, 0, true, P⟩]⟩)
theorem ri_loop (l : List Rst) (f : Bool) (hl : l.length ≤ 150) (hk : ∀ x ∈ l, x.2.2.1 ≤ 9223372036854775807) : ∀ (m i : Nat) (s : Ses) (due : List Pc) (a : Nat) (P : List (List AV)), i + m = l.length → RInv s due → P.drop a = pcs due → a ≤ P.length → ∀ st, agc 0 [0, 3, 4, 5] st = some (riSt l f s due a P i) → RiOut l f (aE G FT 0 lp_law30_SessionRights_0 st) := by
  intro m
  induction m with
  | zero =>
    intro i s due a P hi h hP ha st hst
    unfold riSt at hst
    obtain rfl : i = l.length := by omega
    have e0 : decide ((l.length : Int) < l.length) = false := by simp
    have hln := rsts_len l
    refine .inr ⟨s, P, a, due.length, ?_⟩
    rw [lp_law30_SessionRights_0, y_loop, hst]
    (sym => simp [Qa,Qb,Qc,Qd,Qe,Qf,Qg,Qi,Qj,Qr,Qt,Qu,Qv,Q4,Q5,Xa,Xp,Xs,Xy,Ya,Yc,Yh,Yr,Ys,Yt,Yu,Yv,Yy,Y9,Za,Zb,Zc,Zd,Ze,Zg,Zh,Zm,Zn,Zt,Zv,Zw,Zy,Z0,Z1,Z3,Jb,Jj,Jk,Jl,Jm,Jn,Jp,Jr,Jt,Ju,Jv,J1,J2,Ue,Uf,Ug,Ul,Hh,Hi,Hk,Hl,Ho,Hp,Hq,Hr,Hs,Ht,Hu,Hv,Hw,Ni,Nk,Nl,Nm,No,Nw,Nx,N0,Be,q8R0.eq_1,q8R1.eq_1,q8R2.eq_1,q8R3.eq_1,q8R4.eq_1,q8R5.eq_1,q8R6.eq_1,q8R7.eq_1,q8R8.eq_1,q8R10.eq_1,q8R11.eq_1,q8R12.eq_1,q8R13.eq_1,q8R14.eq_1,q8R15.eq_1,q8R16.eq_1,q8R17.eq_1,q8R18.eq_1,q8R19.eq_1,q8R20.eq_1,q8R21.eq_1,q8R23.eq_1,q8R24.eq_1,q8R22.eq_1,q8R25.eq_1,q8R26.eq_1,q8R27.eq_1,q8R28.eq_1,q8R29.eq_1,q8R30.eq_1,q8R31.eq_1,q8R32.eq_1,q8R33.eq_1,q8R34.eq_1,q8R35.eq_1,q8R36.eq_1,q8R38.eq_1,q8R39.eq_1,q8R37.eq_1,q8R40.eq_1,q8R41.eq_1,q8R42.eq_1,q8R43.eq_1,q8R44.eq_1,q8R45.eq_1,q8R46.eq_1,q8R47.eq_1,q8R9.eq_1,q8R48.eq_1,c_law30_SessionRights.eq_1,c_law30_SessionRights_L0.eq_1,e0,hln])
  | succ m ih =>
    intro i s due a P hi h hP ha st hst
    have hil : i < l.length := by omega
    have hil' : (i : Int) < l.length := by omega
    have hn := hk _ (List.getElem_mem hil)
    have hnext : ∀ s' due' a' P', RInv s' due' → List.drop a' P' = pcs due' → a' ≤ List.length P' → ∀ st', agc 0 [0, 3, 4, 5] st' = some (riSt l f s' due' a' P' (i + 1)) → RiOut l f (aE G FT 0 lp_law30_SessionRights_0 st') :=
      fun s' due' a' P' h' hP' ha' st' hst' => ih (i + 1) s' due' a' P' (by omega) h' hP' ha' st' hst'
    have hg := rsts_at hil
    have hln := rsts_len l
    obtain ⟨kd, id, n, r, dk, dt, dr, dcc, df, hx⟩ : ∃ kd id n r dk dt dr dcc df, l[i] = (kd, id, n, r, dk, dt, dr, dcc, df) := ⟨_, _, _, _, _, _, _, _, _, rfl⟩
    rw [hx] at hg hn
    simp only [rstC] at hg
    simp only at hn
    have hbl := byt_len dt
    have out : (id < 1 ∨ ¬ id < 1 ∧ (8 < id ∨ ¬ 8 < id ∧ (16 : Int) < dt.length)) → RiOut l f (aE G FT 0 lp_law30_SessionRights_0 st) := by
      intro hc
      unfold riSt at hst
      refine .inl ⟨[⟨33, 0, true, [sC s]⟩, ⟨3, 0, true, P⟩, ⟨8, 0, true, [[.int .i64 kd, .int .i64 id, .int .i64 n, .int .i64 r, .int .i64 dk, .data false 1 (byt dt) df, .int .i64 dr, .int .i64 dcc]]⟩], ?_⟩
      rw [lp_law30_SessionRights_0, y_loop, hst]
      rcases hc with h1 | ⟨h1, h8 | ⟨h8, ht⟩⟩
      · (sym => simp [Qa,Qb,Qc,Qd,Qe,Qf,Qg,Qi,Qj,Qr,Qt,Qu,Qv,Q4,Q5,Xa,Xp,Xs,Xy,Ya,Yc,Yh,Yr,Ys,Yt,Yu,Yv,Yy,Y9,Za,Zb,Zc,Zd,Ze,Zg,Zh,Zm,Zn,Zt,Zv,Zw,Zy,Z0,Z1,Z3,Jb,Jj,Jk,Jl,Jm,Jn,Jp,Jr,Jt,Ju,Jv,J1,J2,Ue,Uf,Ug,Ul,Hh,Hi,Hk,Hl,Ho,Hp,Hq,Hr,Hs,Ht,Hu,Hv,Hw,Ni,Nk,Nl,Nm,No,Nw,Nx,N0,Be,q8R0.eq_1,q8R1.eq_1,q8R2.eq_1,q8R3.eq_1,q8R4.eq_1,q8R5.eq_1,q8R6.eq_1,q8R7.eq_1,q8R8.eq_1,q8R10.eq_1,q8R11.eq_1,q8R12.eq_1,q8R13.eq_1,q8R14.eq_1,q8R15.eq_1,q8R16.eq_1,q8R17.eq_1,q8R18.eq_1,q8R19.eq_1,q8R20.eq_1,q8R21.eq_1,q8R23.eq_1,q8R24.eq_1,q8R22.eq_1,q8R25.eq_1,q8R26.eq_1,q8R27.eq_1,q8R28.eq_1,q8R29.eq_1,q8R30.eq_1,q8R31.eq_1,q8R32.eq_1,q8R33.eq_1,q8R34.eq_1,q8R35.eq_1,q8R36.eq_1,q8R38.eq_1,q8R39.eq_1,q8R37.eq_1,q8R40.eq_1,q8R41.eq_1,q8R42.eq_1,q8R43.eq_1,q8R44.eq_1,q8R45.eq_1,q8R46.eq_1,q8R47.eq_1,q8R9.eq_1,q8R48.eq_1,c_law30_SessionRights.eq_1,c_law30_SessionRights_L0.eq_1,hil',hg,hln,h1])
      · (sym => simp [Qa,Qb,Qc,Qd,Qe,Qf,Qg,Qi,Qj,Qr,Qt,Qu,Qv,Q4,Q5,Xa,Xp,Xs,Xy,Ya,Yc,Yh,Yr,Ys,Yt,Yu,Yv,Yy,Y9,Za,Zb,Zc,Zd,Ze,Zg,Zh,Zm,Zn,Zt,Zv,Zw,Zy,Z0,Z1,Z3,Jb,Jj,Jk,Jl,Jm,Jn,Jp,Jr,Jt,Ju,Jv,J1,J2,Ue,Uf,Ug,Ul,Hh,Hi,Hk,Hl,Ho,Hp,Hq,Hr,Hs,Ht,Hu,Hv,Hw,Ni,Nk,Nl,Nm,No,Nw,Nx,N0,Be,q8R0.eq_1,q8R1.eq_1,q8R2.eq_1,q8R3.eq_1,q8R4.eq_1,q8R5.eq_1,q8R6.eq_1,q8R7.eq_1,q8R8.eq_1,q8R10.eq_1,q8R11.eq_1,q8R12.eq_1,q8R13.eq_1,q8R14.eq_1,q8R15.eq_1,q8R16.eq_1,q8R17.eq_1,q8R18.eq_1,q8R19.eq_1,q8R20.eq_1,q8R21.eq_1,q8R23.eq_1,q8R24.eq_1,q8R22.eq_1,q8R25.eq_1,q8R26.eq_1,q8R27.eq_1,q8R28.eq_1,q8R29.eq_1,q8R30.eq_1,q8R31.eq_1,q8R32.eq_1,q8R33.eq_1,q8R34.eq_1,q8R35.eq_1,q8R36.eq_1,q8R38.eq_1,q8R39.eq_1,q8R37.eq_1,q8R40.eq_1,q8R41.eq_1,q8R42.eq_1,q8R43.eq_1,q8R44.eq_1,q8R45.eq_1,q8R46.eq_1,q8R47.eq_1,q8R9.eq_1,q8R48.eq_1,c_law30_SessionRights.eq_1,c_law30_SessionRights_L0.eq_1,hil',hg,hln,h1,h8])
      · (sym => simp [Qa,Qb,Qc,Qd,Qe,Qf,Qg,Qi,Qj,Qr,Qt,Qu,Qv,Q4,Q5,Xa,Xp,Xs,Xy,Ya,Yc,Yh,Yr,Ys,Yt,Yu,Yv,Yy,Y9,Za,Zb,Zc,Zd,Ze,Zg,Zh,Zm,Zn,Zt,Zv,Zw,Zy,Z0,Z1,Z3,Jb,Jj,Jk,Jl,Jm,Jn,Jp,Jr,Jt,Ju,Jv,J1,J2,Ue,Uf,Ug,Ul,Hh,Hi,Hk,Hl,Ho,Hp,Hq,Hr,Hs,Ht,Hu,Hv,Hw,Ni,Nk,Nl,Nm,No,Nw,Nx,N0,Be,q8R0.eq_1,q8R1.eq_1,q8R2.eq_1,q8R3.eq_1,q8R4.eq_1,q8R5.eq_1,q8R6.eq_1,q8R7.eq_1,q8R8.eq_1,q8R10.eq_1,q8R11.eq_1,q8R12.eq_1,q8R13.eq_1,q8R14.eq_1,q8R15.eq_1,q8R16.eq_1,q8R17.eq_1,q8R18.eq_1,q8R19.eq_1,q8R20.eq_1,q8R21.eq_1,q8R23.eq_1,q8R24.eq_1,q8R22.eq_1,q8R25.eq_1,q8R26.eq_1,q8R27.eq_1,q8R28.eq_1,q8R29.eq_1,q8R30.eq_1,q8R31.eq_1,q8R32.eq_1,q8R33.eq_1,q8R34.eq_1,q8R35.eq_1,q8R36.eq_1,q8R38.eq_1,q8R39.eq_1,q8R37.eq_1,q8R40.eq_1,q8R41.eq_1,q8R42.eq_1,q8R43.eq_1,q8R44.eq_1,q8R45.eq_1,q8R46.eq_1,q8R47.eq_1,q8R9.eq_1,q8R48.eq_1,c_law30_SessionRights.eq_1,c_law30_SessionRights_L0.eq_1,hil',hg,hln,h1,h8,hbl,ht])
    by_cases h1 : id < 1
    · exact out (.inl h1)
    by_cases h8 : 8 < id
    · exact out (.inr ⟨h1, .inl h8⟩)
    by_cases ht : 16 < dt.length
    · exact out (.inr ⟨h1, .inr ⟨h8, by omega⟩⟩)
    obtain ⟨j, rfl⟩ : ∃ j : Nat, id = (j : Int) := ⟨id.toNat, by omega⟩
    have j1 : 1 ≤ j := by omega
    have j8 : j ≤ 8 := by omega
    have t16 : dt.length ≤ 16 := by omega
    by_cases k0 : kd = 0
    · exact ri_join G l f hl i hil kd n r dk dr dcc dt df j hx j1 j8 t16 hn s due h a P hP ha k0 st hst _ hnext
    by_cases k1 : kd = 1
    · exact ri_leave G l f hl i hil kd n r dk dr dcc dt df j hx j1 j8 t16 hn s due h a P hP ha k1 st hst _ hnext
    by_cases k2 : kd = 2
    · exact ri_change G l f hl i hil kd n r dk dr dcc dt df j hx j1 j8 t16 hn s due h a P hP ha k2 st hst _ hnext
    by_cases k3 : kd = 3
    · exact ri_take G l f hl i hil kd n r dk dr dcc dt df j hx j1 j8 t16 hn s due h a P hP ha k3 st hst _ hnext
    by_cases k4 : kd = 4
    · exact ri_write G l f hl i hil kd n r dk dr dcc dt df j hx j1 j8 t16 hn s due h a P hP ha k4 st hst _ hnext
    exact ri_other G l f hl i hil kd n r dk dr dcc dt df j hx j1 j8 t16 hn s due h a P hP ha k0 k1 k2 k3 k4 st hst _ hnext
/-- The first session. -/
def fS : Ses := ⟨[], 0, [], [], fun _ => (0, 0), 24, 40, fun _ => 0, false, false, false⟩
theorem first_P : aP G FT n_session_First [] = some (.agg (sC fS)) := by
  have e : sC fS = (.data false 2 [] false :: .int .i64 0 :: .data false 1 [] false :: .data false 3 [] false :: .int .i64 0 :: .int .i64 0 :: .int .i64 0 :: .int .i64 0 :: .int .i64 0 :: .int .i64 0 :: .int .i64 0 :: .int .i64 0 :: .int .i64 0 :: .int .i64 0 :: .int .i64 0 :: .int .i64 0 :: .int .i64 0 :: .int .i64 0 :: .int .i64 0 :: .int .i64 0 :: .int .i64 0 :: .int .i64 0 :: .int .i64 24 :: .int .i64 40 :: .int .i64 0 :: .int .i64 0 :: .int .i64 0 :: .int .i64 0 :: .int .i64 0 :: .int .i64 0 :: .int .i64 0 :: .int .i64 0 :: .int .i64 0 :: []) := rfl
  rw [e]
  unfold aP
  rw [run_session_First]
  (sym => simp [Qb,Qd,Qe,Qi,Qj,Qv,Qx,Qy,Q1,Q5,Yk,Yr,Yu,Y1,Y5,Y8,Y9,Za,Zb,Zc,Zd,Ze,Zg,Zh,Zj,Zl,Zm,Zn,Zr,Zs,Zt,Zu,Zv,Zw,Zy,Z0,Z1,Jj,Jk,Jv,Jx,J1,J2,K8,K9,Ue,Uf,Ug,Ul,Wg,Wh,Wj,Wp,Wq,Hh,Hk,Ho,Hp,Hq,Hr,Hs,Ht,Hu,Hv,Hw,No,Nx,Nz,N0,Be,q34R0.eq_1,q34R1.eq_1,c_session_First.eq_1])
theorem fS_inv : RInv fS [] := ⟨by decide, rfl, by decide⟩
theorem rights_P (l : List Rst) (f : Bool) (hk : ∀ x ∈ l, x.2.2.1 ≤ 9223372036854775807) : aP G FT n_law30_SessionRights [.data false 8 (rsts l) f] = some (.bool true) := by
  have hK := known30_P G
  have hF := first_P G
  have hln := rsts_len l
  unfold aP
  rw [run_law30_SessionRights]
  by_cases hq : 150 < l.length
  · have hq' : (150 : Int) < l.length := by omega
    (sym => simp [Qb,Qc,Qd,Qe,Qi,Qj,Qm,Qo,Qr,Qs,Qt,Qv,Q5,Xa,Xd,Xy,Yc,Yh,Y1,Y5,Y7,Y9,Za,Zb,Zc,Zd,Ze,Zg,Zh,Zi,Zj,Zk,Zl,Zm,Zn,Zo,Zr,Zs,Zt,Zu,Zv,Zw,Zx,Zy,Zz,Z0,Z1,Z3,Jj,Jk,Jl,Jn,Jp,Jq,Jr,Jv,Jx,J1,J2,Ue,Uf,Ug,Ul,Us,Ut,Ux,U0,U4,U5,U6,U7,Vb,Ve,Vk,Vm,Vo,Vp,Vq,Vr,Vs,Vt,Vu,Vv,Vw,Vx,Vy,Vz,V0,Wd,Wk,Hh,Hi,Hk,Hp,Hr,Ht,Hu,Hv,Hw,H1,H4,H5,H6,Nl,Nm,No,Nu,Nw,Nx,N0,Be,q8R0.eq_1,q8R1.eq_1,q8R2.eq_1,q8R3.eq_1,q8R4.eq_1,q8R5.eq_1,q8R6.eq_1,q8R7.eq_1,q8R8.eq_1,q8R10.eq_1,q8R11.eq_1,q8R12.eq_1,q8R13.eq_1,q8R14.eq_1,q8R15.eq_1,q8R16.eq_1,q8R17.eq_1,q8R18.eq_1,q8R19.eq_1,q8R20.eq_1,q8R21.eq_1,q8R23.eq_1,q8R24.eq_1,q8R22.eq_1,q8R25.eq_1,q8R26.eq_1,q8R27.eq_1,q8R28.eq_1,q8R29.eq_1,q8R30.eq_1,q8R31.eq_1,q8R32.eq_1,q8R33.eq_1,q8R34.eq_1,q8R35.eq_1,q8R36.eq_1,q8R38.eq_1,q8R39.eq_1,q8R37.eq_1,q8R40.eq_1,q8R41.eq_1,q8R42.eq_1,q8R43.eq_1,q8R44.eq_1,q8R45.eq_1,q8R46.eq_1,q8R47.eq_1,q8R9.eq_1,q8R48.eq_1,c_law30_SessionRights.eq_1,hK,hln,hq'])
  have hq' : ¬ (150 : Int) < l.length := by omega
  have a1 := sC_len fS
  have a2 := sC_st fS
  have a3 := sC_all fS
  have a5 : (sC fS).drop 33 = [] := rfl
  have key := ri_loop G l f (by omega) hk l.length 0 fS [] 0 [] (by omega) fS_inv rfl (Nat.le_refl _) ⟨[(0, .data false 8 (rsts l) f), (3, .ptr 0 0 0 0), (4, .own 1 0 0 0 0), (5, .int .i64 0)], [⟨33, 0, true, [sC fS]⟩, ⟨3, 0, true, []⟩]⟩ (by
    unfold riSt
    simp only [List.length_nil, Int.natCast_zero]
    (sym => simp [Qb,Qc,Qd,Qe,Qi,Qj,Qm,Qo,Qr,Qs,Qt,Qv,Q5,Xa,Xd,Xy,Yc,Yh,Y1,Y5,Y7,Y9,Za,Zb,Zc,Zd,Ze,Zg,Zh,Zi,Zj,Zk,Zl,Zm,Zn,Zo,Zr,Zs,Zt,Zu,Zv,Zw,Zx,Zy,Zz,Z0,Z1,Z3,Jj,Jk,Jl,Jn,Jp,Jq,Jr,Jv,Jx,J1,J2,Ue,Uf,Ug,Ul,Us,Ut,Ux,U0,U4,U5,U6,U7,Vb,Ve,Vk,Vm,Vo,Vp,Vq,Vr,Vs,Vt,Vu,Vv,Vw,Vx,Vy,Vz,V0,Wd,Wk,Hh,Hi,Hk,Hp,Hr,Ht,Hu,Hv,Hw,H1,H4,H5,H6,Nl,Nm,No,Nu,Nw,Nx,N0,Be]))
  generalize sC fS = sf at *
  rcases key with ⟨h, key⟩ | ⟨s, P, a, n, key⟩
  · (sym => simp [Qb,Qc,Qd,Qe,Qi,Qj,Qm,Qo,Qr,Qs,Qt,Qv,Q5,Xa,Xd,Xy,Yc,Yh,Y1,Y5,Y7,Y9,Za,Zb,Zc,Zd,Ze,Zg,Zh,Zi,Zj,Zk,Zl,Zm,Zn,Zo,Zr,Zs,Zt,Zu,Zv,Zw,Zx,Zy,Zz,Z0,Z1,Z3,Jj,Jk,Jl,Jn,Jp,Jq,Jr,Jv,Jx,J1,J2,Ue,Uf,Ug,Ul,Us,Ut,Ux,U0,U4,U5,U6,U7,Vb,Ve,Vk,Vm,Vo,Vp,Vq,Vr,Vs,Vt,Vu,Vv,Vw,Vx,Vy,Vz,V0,Wd,Wk,Hh,Hi,Hk,Hp,Hr,Ht,Hu,Hv,Hw,H1,H4,H5,H6,Nl,Nm,No,Nu,Nw,Nx,N0,Be,q8R0.eq_1,q8R1.eq_1,q8R2.eq_1,q8R3.eq_1,q8R4.eq_1,q8R5.eq_1,q8R6.eq_1,q8R7.eq_1,q8R8.eq_1,q8R10.eq_1,q8R11.eq_1,q8R12.eq_1,q8R13.eq_1,q8R14.eq_1,q8R15.eq_1,q8R16.eq_1,q8R17.eq_1,q8R18.eq_1,q8R19.eq_1,q8R20.eq_1,q8R21.eq_1,q8R23.eq_1,q8R24.eq_1,q8R22.eq_1,q8R25.eq_1,q8R26.eq_1,q8R27.eq_1,q8R28.eq_1,q8R29.eq_1,q8R30.eq_1,q8R31.eq_1,q8R32.eq_1,q8R33.eq_1,q8R34.eq_1,q8R35.eq_1,q8R36.eq_1,q8R38.eq_1,q8R39.eq_1,q8R37.eq_1,q8R40.eq_1,q8R41.eq_1,q8R42.eq_1,q8R43.eq_1,q8R44.eq_1,q8R45.eq_1,q8R46.eq_1,q8R47.eq_1,q8R9.eq_1,q8R48.eq_1,c_law30_SessionRights.eq_1,hK,hF,hln,hq',key,a1,a2,a3,a5,List.append_nil])
  · generalize sC s = scs at *
    (sym => simp [Qb,Qc,Qd,Qe,Qi,Qj,Qm,Qo,Qr,Qs,Qt,Qv,Q5,Xa,Xd,Xy,Yc,Yh,Y1,Y5,Y7,Y9,Za,Zb,Zc,Zd,Ze,Zg,Zh,Zi,Zj,Zk,Zl,Zm,Zn,Zo,Zr,Zs,Zt,Zu,Zv,Zw,Zx,Zy,Zz,Z0,Z1,Z3,Jj,Jk,Jl,Jn,Jp,Jq,Jr,Jv,Jx,J1,J2,Ue,Uf,Ug,Ul,Us,Ut,Ux,U0,U4,U5,U6,U7,Vb,Ve,Vk,Vm,Vo,Vp,Vq,Vr,Vs,Vt,Vu,Vv,Vw,Vx,Vy,Vz,V0,Wd,Wk,Hh,Hi,Hk,Hp,Hr,Ht,Hu,Hv,Hw,H1,H4,H5,H6,Nl,Nm,No,Nu,Nw,Nx,N0,Be,q8R0.eq_1,q8R1.eq_1,q8R2.eq_1,q8R3.eq_1,q8R4.eq_1,q8R5.eq_1,q8R6.eq_1,q8R7.eq_1,q8R8.eq_1,q8R10.eq_1,q8R11.eq_1,q8R12.eq_1,q8R13.eq_1,q8R14.eq_1,q8R15.eq_1,q8R16.eq_1,q8R17.eq_1,q8R18.eq_1,q8R19.eq_1,q8R20.eq_1,q8R21.eq_1,q8R23.eq_1,q8R24.eq_1,q8R22.eq_1,q8R25.eq_1,q8R26.eq_1,q8R27.eq_1,q8R28.eq_1,q8R29.eq_1,q8R30.eq_1,q8R31.eq_1,q8R32.eq_1,q8R33.eq_1,q8R34.eq_1,q8R35.eq_1,q8R36.eq_1,q8R38.eq_1,q8R39.eq_1,q8R37.eq_1,q8R40.eq_1,q8R41.eq_1,q8R42.eq_1,q8R43.eq_1,q8R44.eq_1,q8R45.eq_1,q8R46.eq_1,q8R47.eq_1,q8R9.eq_1,q8R48.eq_1,c_law30_SessionRights.eq_1,hK,hF,hln,hq',key,a1,a2,a3,a5,List.append_nil])
theorem ty_rsts {a : AV} (h : HasTy (.sl [.int .i64, .int .i64, .int .i64, .int .i64, .int .i64, .sl [.int .u8], .int .i64, .int .i64]) a) : ∃ l f, a = .data false 8 (rsts l) f ∧ ∀ x ∈ l, x.2.2.1 ≤ 9223372036854775807 := by
  simp only [HasTy] at h
  obtain ⟨es, f, rfl, hl, he⟩ := h
  obtain ⟨l, rfl, hq⟩ := list_of (Q := fun x : Rst => x.2.2.1 ≤ 9223372036854775807) (f := rstC) es (fun g hg => by
    obtain ⟨a, as, rfl, ha, h2⟩ := tys_cons (he g hg)
    obtain ⟨b, bs, rfl, hb, h3⟩ := tys_cons h2
    obtain ⟨c, cs, rfl, hc, h4⟩ := tys_cons h3
    obtain ⟨d, ds, rfl, hd, h5⟩ := tys_cons h4
    obtain ⟨x, rfl, _⟩ := ty_int ha
    obtain ⟨y, rfl, _⟩ := ty_int hb
    obtain ⟨z, rfl, hz⟩ := ty_int hc
    obtain ⟨w, rfl, _⟩ := ty_int hd
    obtain ⟨p, rfl⟩ := ty_deed h5
    exact ⟨(x, y, z, w, p), rfl, (inK_i64.1 hz).2⟩)
  exact ⟨l, f, rfl, hq⟩
theorem law_SessionRights (a0 : AV) (h0 : HasTy (.sl [.int .i64, .int .i64, .int .i64, .int .i64, .int .i64, .sl [.int .u8], .int .i64, .int .i64]) a0) : aP G FT n_law30_SessionRights [a0] = some (.bool true) := by
  obtain ⟨l, f, rfl, hk⟩ := ty_rsts h0
  exact rights_P G l f hk
end Go.Proofs.Ythcnhibjddomdaa
