/- Rosters: places, Find, Join, Leave, Change. Conditions: as each statement says. -/
import Derived.Test.YthcnhibjddomdaaGreatRos2
set_option linter.unusedVariables false
set_option linter.unusedSimpArgs false
set_option linter.unusedSectionVars false
set_option maxRecDepth 20000
set_option maxHeartbeats 1000000
namespace Go.Proofs.YthcnhibjddomdaaGreat
open Go
variable (G : Nat → Option (List AV))
theorem place1_run (m : Int × Int) (id : Int) (h : List ARow) (h1 : 0 ≤ m.1) (h2 : m.1 ≤ 1000) (h3 : 0 ≤ id) (h4 : id ≤ 1000) : aR G FT n_roster_place_1 [.agg [.int .i64 m.1, .int .i64 m.2], .int .i64 id] h = some (.int .i64 (m.1 - id), h ++ [⟨2, 0, true, [[.int .i64 m.1, .int .i64 m.2]]⟩]) := by
  have hw : IntKind.i64.wrap (m.1 - id) = m.1 - id := wrap_in _ (by omega) (by omega)
  have hg : (h ++ [(⟨2, 0, true, [[.int .i64 m.1, .int .i64 m.2]]⟩ : ARow)])[h.length]? = some ⟨2, 0, true, [[.int .i64 m.1, .int .i64 m.2]]⟩ := by simp
  rw [run_roster_place_1]
  (sym => simp [Qb,Qd,Qe,Qi,Qj,Qr,Qw,Q4,Xa,Xp,X6,Yj,Yr,Yt,Yv,Y1,Y5,Y7,Y9,Za,Zb,Zc,Ze,Zg,Zh,Zi,Zj,Zk,Zl,Zm,Zn,Zr,Zs,Zt,Zu,Zv,Zw,Zy,Z0,Jj,Jk,Jv,Jx,Ue,Uf,Ug,Hh,No,Be,q65R0.eq_1,q65R1.eq_1,c_roster_place_1.eq_1,hw,hg])
theorem half (i j : Nat) (h : i + j ≤ 1000) : IntKind.i64.wrap ((i : Int) + j) = ((i + j : Nat) : Int) ∧ IntKind.u64.wrap ((i + j : Nat) : Int) = ((i + j : Nat) : Int) ∧ Int.fdiv ((i + j : Nat) : Int) (2 ^ min 1 IntKind.u64.bits) = (((i + j) / 2 : Nat) : Int) ∧ IntKind.i64.wrap (((i + j) / 2 : Nat) : Int) = (((i + j) / 2 : Nat) : Int) := by
  refine ⟨by rw [wrap_in _ (by omega) (by omega)]; omega, ?_, ?_, wrap_in _ (by omega) (by omega)⟩
  · simp [IntKind.wrap, IntKind.signed, IntKind.bits]; omega
  · show Int.fdiv ((i + j : Nat) : Int) 2 = _
    rw [Int.fdiv_eq_ediv_of_nonneg _ (by omega)]; omega
theorem search_loop (l : List (Int × Int)) (b f : Bool) (id : Int) (hm : mayM l = true) (h1 : 1 ≤ id) (h8 : id ≤ 8) : ∀ (m i j : Nat), j - i = m → i ≤ cntLt l id → cntLt l id ≤ j → j ≤ l.length → ∀ e,
    aE G FT 0 lp_slices_BinarySearchFunc_Member_int_0 ⟨[(0, .data b 2 (mbs l) f), (1, .int .i64 id), (2, .fn (.func n_roster_place_1) [] []), (8, .int .i64 l.length), (9, .int .i64 i), (10, .int .i64 j)], e⟩ =
      some (.exit 0, ⟨[(0, .data b 2 (mbs l) f), (1, .int .i64 id), (2, .fn (.func n_roster_place_1) [] []), (8, .int .i64 l.length), (9, .int .i64 (cntLt l id)), (10, .int .i64 (cntLt l id)), (17, .bool false)], []⟩) := by
  intro m
  have hl8 := mayM_len hm
  have gc : ∀ (i j : Int) (e : List ARow), agc 0 [0, 1, 2, 8, 9, 10] ⟨[(0, .data b 2 (mbs l) f), (1, .int .i64 id), (2, .fn (.func n_roster_place_1) [] []), (8, .int .i64 l.length), (9, .int .i64 i), (10, .int .i64 j)], e⟩ =
      some ⟨[(0, .data b 2 (mbs l) f), (1, .int .i64 id), (2, .fn (.func n_roster_place_1) [] []), (8, .int .i64 l.length), (9, .int .i64 i), (10, .int .i64 j)], []⟩ := fun i j e => by (sym => simp [Qa,Qc,Qd,Qe,Qi,Qj,Qm,Qn,Qp,Qq,Qr,Qt,Q4,Xa,Xe,Xg,Xs,X5,Ya,Ys,Yu,Yy,Y9,Za,Zb,Zc,Ze,Zg,Zh,Zk,Zl,Zm,Zn,Zt,Zv,Zw,Z3,Jj,Jk,Jm,Jn,Jo,Jr,Js,Ju,Jv,Ke,Uw,Ux,U0,U4,U5,Va,Vb,Ve,Vi,Vo,Vq,Vr,Vt,Vv,Vw,Vy,Vz,V0,Ho,Hp,Hq,Hs,Hv,Hw,H1,Ne,Ni,Nk,Nl,Nm,No,Be,Bi])
  induction m using Nat.strongRecOn with
  | _ m ih =>
  intro i j hm' hi hj hjl e
  rw [lp_slices_BinarySearchFunc_Member_int_0] at ih
  rw [lp_slices_BinarySearchFunc_Member_int_0, y_loop, gc]
  by_cases hij : i < j
  · have hij' : (i : Int) < j := by omega
    obtain ⟨w1, w2, w3, w4⟩ := half i j (by omega)
    have u1 : asum .u64 ((i + j : Nat) : Int) = .int .u64 ((i + j : Nat) : Int) := by unfold asum; rw [w2]
    have u2 : asum .i64 (((i + j) / 2 : Nat) : Int) = .int .i64 (((i + j) / 2 : Nat) : Int) := by unfold asum; rw [w4]
    have ht : (i + j) / 2 < l.length := by omega
    have hg := mbs_at ht
    have hc := cnt_at l 0 hm id ((i + j) / 2) ht
    have hmem := mayGo_mem l 0 hm _ (List.getElem_mem ht)
    have hP := place1_run G (l[(i + j) / 2]) id [] (by omega) (by omega) (by omega) (by omega)
    generalize l[(i + j) / 2] = x at hg hP hc hmem
    obtain ⟨a, r⟩ := x
    simp only [List.nil_append] at hP hg hc
    have hw := wrap_nat (n := (i + j) / 2) (by omega)
    by_cases hx : a < id
    · have hx' : a - id < 0 := by omega
      have ih := fun e => ih (j - ((i + j) / 2 + 1)) (by omega) ((i + j) / 2 + 1) j rfl (by have := hc.1 hx; omega) hj hjl e
      (sym => simp [Qa,Qc,Qd,Qe,Qi,Qj,Qm,Qn,Qp,Qq,Qr,Qt,Q4,Xa,Xe,Xg,Xs,X5,Ya,Ys,Yu,Yy,Y9,Za,Zb,Zc,Ze,Zg,Zh,Zk,Zl,Zm,Zn,Zt,Zv,Zw,Z3,Jj,Jk,Jm,Jn,Jo,Jr,Js,Ju,Jv,Ke,Uw,Ux,U0,U4,U5,Va,Vb,Ve,Vi,Vo,Vq,Vr,Vt,Vv,Vw,Vy,Vz,V0,Ho,Hp,Hq,Hs,Hv,Hw,H1,Ne,Ni,Nk,Nl,Nm,No,Be,Bi,q93R0.eq_1,q93R1.eq_1,q93R2.eq_1,q93R3.eq_1,q93R4.eq_1,q93R5.eq_1,q93R6.eq_1,q93R7.eq_1,q93R8.eq_1,c_slices_BinarySearchFunc_Member_int.eq_1,c_slices_BinarySearchFunc_Member_int_L0.eq_1,hij',w1,u1,w3,u2,hg,hP,hx',hw]; tactic => (
        exact ih _))
    · have hx' : ¬ a - id < 0 := by omega
      have ih := fun e => ih ((i + j) / 2 - i) (by omega) i ((i + j) / 2) rfl hi (by
        rcases Nat.lt_or_ge ((i + j) / 2) (cntLt l id) with h | h
        · exact absurd (hc.2 h) hx
        · exact h) (by omega) e
      (sym => simp [Qa,Qc,Qd,Qe,Qi,Qj,Qm,Qn,Qp,Qq,Qr,Qt,Q4,Xa,Xe,Xg,Xs,X5,Ya,Ys,Yu,Yy,Y9,Za,Zb,Zc,Ze,Zg,Zh,Zk,Zl,Zm,Zn,Zt,Zv,Zw,Z3,Jj,Jk,Jm,Jn,Jo,Jr,Js,Ju,Jv,Ke,Uw,Ux,U0,U4,U5,Va,Vb,Ve,Vi,Vo,Vq,Vr,Vt,Vv,Vw,Vy,Vz,V0,Ho,Hp,Hq,Hs,Hv,Hw,H1,Ne,Ni,Nk,Nl,Nm,No,Be,Bi,q93R0.eq_1,q93R1.eq_1,q93R2.eq_1,q93R3.eq_1,q93R4.eq_1,q93R5.eq_1,q93R6.eq_1,q93R7.eq_1,q93R8.eq_1,c_slices_BinarySearchFunc_Member_int.eq_1,c_slices_BinarySearchFunc_Member_int_L0.eq_1,hij',w1,u1,w3,u2,hg,hP,hx',hw]; tactic => (
        exact ih _))
  · have hij' : ¬ (i : Int) < j := by omega
    obtain rfl : i = cntLt l id := by omega
    obtain rfl : j = cntLt l id := by omega
    (sym => simp [Qa,Qc,Qd,Qe,Qi,Qj,Qm,Qn,Qp,Qq,Qr,Qt,Q4,Xa,Xe,Xg,Xs,X5,Ya,Ys,Yu,Yy,Y9,Za,Zb,Zc,Ze,Zg,Zh,Zk,Zl,Zm,Zn,Zt,Zv,Zw,Z3,Jj,Jk,Jm,Jn,Jo,Jr,Js,Ju,Jv,Ke,Uw,Ux,U0,U4,U5,Va,Vb,Ve,Vi,Vo,Vq,Vr,Vt,Vv,Vw,Vy,Vz,V0,Ho,Hp,Hq,Hs,Hv,Hw,H1,Ne,Ni,Nk,Nl,Nm,No,Be,Bi,q93R0.eq_1,q93R1.eq_1,q93R2.eq_1,q93R3.eq_1,q93R4.eq_1,q93R5.eq_1,q93R6.eq_1,q93R7.eq_1,q93R8.eq_1,c_slices_BinarySearchFunc_Member_int.eq_1,c_slices_BinarySearchFunc_Member_int_L0.eq_1,hij'])
theorem rplace_P (l : List (Int × Int)) (b f : Bool) (id : Int) (hm : mayM l = true) (h1 : 1 ≤ id) (h8 : id ≤ 8) : aP G FT n_roster_place [.data b 2 (mbs l) f, .int .i64 id] = some (.tup [.int .i64 (cntLt l id), .bool (decide (roleOf l id ≠ 0))]) := by
  have hl8 := mayM_len hm
  have hln := mbs_len l
  have hcl := cnt_le l id
  have key := search_loop G l b f id hm h1 h8 l.length 0 l.length rfl (by omega) hcl (Nat.le_refl _) []
  simp only [Int.natCast_zero] at key
  obtain ⟨c1, c2⟩ := cnt_role l 0 hm id
  unfold aP
  rw [run_roster_place]
  by_cases hk : cntLt l id < l.length
  · have hk' : (cntLt l id : Int) < l.length := by omega
    have hg := mbs_at hk
    have hmem := mayGo_mem l 0 hm _ (List.getElem_mem hk)
    have hP := place1_run G (l[cntLt l id]) id [] (by omega) (by omega) (by omega) (by omega)
    by_cases hx : l[cntLt l id].1 = id
    · have hr : roleOf l id ≠ 0 := c1.2 ⟨hk, hx⟩
      have hd : decide (roleOf l id ≠ 0) = true := by simp [hr]
      rw [hd]
      generalize l[cntLt l id] = x at hg hP hx
      obtain ⟨a, r⟩ := x
      simp only [List.nil_append] at hP hg hx
      have hx' : a - id = 0 := by omega
      (sym => simp [Qb,Qd,Qe,Qf,Qg,Qi,Qj,Ql,Qm,Qn,Qo,Qp,Qq,Qr,Qt,Qu,Q4,Xa,Xs,Xw,Xx,Xy,X8,Ya,Yh,Ys,Yu,Yy,Y1,Y6,Y7,Y9,Za,Zb,Zc,Ze,Zg,Zh,Zi,Zj,Zk,Zl,Zm,Zn,Zq,Zr,Zs,Zt,Zu,Zv,Zw,Z3,Ja,Jj,Jk,Jn,Jq,Jv,Jx,Wi,Wj,Wk,Wp,Wq,Hh,Hi,Ho,Hq,Hs,Hv,Hw,Ne,Ni,Nk,Nl,Nm,Be,q64R0.eq_1,q64R1.eq_1,c_roster_place.eq_1,run_slices_BinarySearchFunc_Member_int,q93R0.eq_1,q93R1.eq_1,q93R2.eq_1,q93R3.eq_1,q93R4.eq_1,q93R5.eq_1,q93R6.eq_1,q93R7.eq_1,q93R8.eq_1,c_slices_BinarySearchFunc_Member_int.eq_1,hln,key,hk',hg,hP,hx'])
    · have hr : roleOf l id = 0 := Classical.not_not.1 fun h => hx (by obtain ⟨_, h2⟩ := c1.1 h; exact h2)
      have hd : decide (roleOf l id ≠ 0) = false := by simp [hr]
      rw [hd]
      generalize l[cntLt l id] = x at hg hP hx
      obtain ⟨a, r⟩ := x
      simp only [List.nil_append] at hP hg hx
      have hx' : ¬ a - id = 0 := by omega
      (sym => simp [Qb,Qd,Qe,Qf,Qg,Qi,Qj,Ql,Qm,Qn,Qo,Qp,Qq,Qr,Qt,Qu,Q4,Xa,Xs,Xw,Xx,Xy,X8,Ya,Yh,Ys,Yu,Yy,Y1,Y6,Y7,Y9,Za,Zb,Zc,Ze,Zg,Zh,Zi,Zj,Zk,Zl,Zm,Zn,Zq,Zr,Zs,Zt,Zu,Zv,Zw,Z3,Ja,Jj,Jk,Jn,Jq,Jv,Jx,Wi,Wj,Wk,Wp,Wq,Hh,Hi,Ho,Hq,Hs,Hv,Hw,Ne,Ni,Nk,Nl,Nm,Be,q64R0.eq_1,q64R1.eq_1,c_roster_place.eq_1,run_slices_BinarySearchFunc_Member_int,q93R0.eq_1,q93R1.eq_1,q93R2.eq_1,q93R3.eq_1,q93R4.eq_1,q93R5.eq_1,q93R6.eq_1,q93R7.eq_1,q93R8.eq_1,c_slices_BinarySearchFunc_Member_int.eq_1,hln,key,hk',hg,hP,hx'])
  · have hk' : ¬ (cntLt l id : Int) < l.length := by omega
    have hr : roleOf l id = 0 := Classical.not_not.1 fun h => hk (by obtain ⟨h1, _⟩ := c1.1 h; exact h1)
    have hd : decide (roleOf l id ≠ 0) = false := by simp [hr]
    rw [hd]
    (sym => simp [Qb,Qd,Qe,Qf,Qg,Qi,Qj,Ql,Qm,Qn,Qo,Qp,Qq,Qr,Qt,Qu,Q4,Xa,Xs,Xw,Xx,Xy,X8,Ya,Yh,Ys,Yu,Yy,Y1,Y6,Y7,Y9,Za,Zb,Zc,Ze,Zg,Zh,Zi,Zj,Zk,Zl,Zm,Zn,Zq,Zr,Zs,Zt,Zu,Zv,Zw,Z3,Ja,Jj,Jk,Jn,Jq,Jv,Jx,Wi,Wj,Wk,Wp,Wq,Hh,Hi,Ho,Hq,Hs,Hv,Hw,Ne,Ni,Nk,Nl,Nm,Be,q64R0.eq_1,q64R1.eq_1,c_roster_place.eq_1,run_slices_BinarySearchFunc_Member_int,q93R0.eq_1,q93R1.eq_1,q93R2.eq_1,q93R3.eq_1,q93R4.eq_1,q93R5.eq_1,q93R6.eq_1,q93R7.eq_1,q93R8.eq_1,c_slices_BinarySearchFunc_Member_int.eq_1,hln,key,hk'])
def idB (id : Int) : Bool := decide (1 ≤ id) && decide (id ≤ 8)
/-- Is a member there? -/
def thereB (l : List (Int × Int)) (id : Int) : Bool := mayM l && idB id && decide (roleOf l id ≠ 0)
theorem find_P (l : List (Int × Int)) (b f : Bool) (id : Int) (hl : l.length < 1000000) : aP G FT n_roster_Find [.data b 2 (mbs l) f, .int .i64 id] =
    some (.tup [.agg [.int .i64 (if thereB l id = true then id else 0), .int .i64 (if thereB l id = true then roleOf l id else 0)], .bool (thereB l id)]) := by
  have hM := fun b f => smay_P G l b f hl
  have hln := mbs_len l
  unfold aP
  rw [run_roster_Find]
  cases hm : mayM l with
  | false =>
    have ht : thereB l id = false := by simp [thereB, hm]
    rw [ht]
    simp only [Bool.false_eq_true, if_false]
    (sym => simp [Qb,Qc,Qd,Qe,Qf,Qg,Qi,Qj,Qm,Qn,Qo,Qr,Qt,Qu,Qv,Qx,Q1,Q4,Q5,Xa,Xd,Xs,Xw,Xx,Ya,Yc,Yr,Ys,Yu,Yy,Y1,Y6,Y7,Y8,Y9,Za,Zb,Zc,Zd,Ze,Zg,Zh,Zi,Zj,Zk,Zl,Zm,Zn,Zo,Zr,Zs,Zt,Zu,Zv,Zw,Zy,Z0,Z1,Z3,Jb,Jj,Jk,Jl,Jr,Jv,Jx,J1,J2,K8,Ue,Uf,Ug,V6,V9,Wd,We,Wh,Wi,Wj,Wk,Wp,Wq,Hh,Hi,Hk,Ho,Hp,Hq,Hr,Hs,Ht,Hv,Hw,Ne,Ni,Nk,Nl,Nm,No,Nw,Nx,N0,Be,q57R0.eq_1,q57R1.eq_1,q57R2.eq_1,q57R3.eq_1,q57R4.eq_1,q57R5.eq_1,q57R6.eq_1,c_roster_Find.eq_1,hM,hm])
  | true =>
    by_cases h1 : id < 1
    · have ht : thereB l id = false := by simp [thereB, idB]; omega
      rw [ht]
      simp only [Bool.false_eq_true, if_false]
      (sym => simp [Qb,Qc,Qd,Qe,Qf,Qg,Qi,Qj,Qm,Qn,Qo,Qr,Qt,Qu,Qv,Qx,Q1,Q4,Q5,Xa,Xd,Xs,Xw,Xx,Ya,Yc,Yr,Ys,Yu,Yy,Y1,Y6,Y7,Y8,Y9,Za,Zb,Zc,Zd,Ze,Zg,Zh,Zi,Zj,Zk,Zl,Zm,Zn,Zo,Zr,Zs,Zt,Zu,Zv,Zw,Zy,Z0,Z1,Z3,Jb,Jj,Jk,Jl,Jr,Jv,Jx,J1,J2,K8,Ue,Uf,Ug,V6,V9,Wd,We,Wh,Wi,Wj,Wk,Wp,Wq,Hh,Hi,Hk,Ho,Hp,Hq,Hr,Hs,Ht,Hv,Hw,Ne,Ni,Nk,Nl,Nm,No,Nw,Nx,N0,Be,q57R0.eq_1,q57R1.eq_1,q57R2.eq_1,q57R3.eq_1,q57R4.eq_1,q57R5.eq_1,q57R6.eq_1,c_roster_Find.eq_1,hM,hm,h1])
    by_cases h8 : 8 < id
    · have ht : thereB l id = false := by simp [thereB, idB]; omega
      rw [ht]
      simp only [Bool.false_eq_true, if_false]
      (sym => simp [Qb,Qc,Qd,Qe,Qf,Qg,Qi,Qj,Qm,Qn,Qo,Qr,Qt,Qu,Qv,Qx,Q1,Q4,Q5,Xa,Xd,Xs,Xw,Xx,Ya,Yc,Yr,Ys,Yu,Yy,Y1,Y6,Y7,Y8,Y9,Za,Zb,Zc,Zd,Ze,Zg,Zh,Zi,Zj,Zk,Zl,Zm,Zn,Zo,Zr,Zs,Zt,Zu,Zv,Zw,Zy,Z0,Z1,Z3,Jb,Jj,Jk,Jl,Jr,Jv,Jx,J1,J2,K8,Ue,Uf,Ug,V6,V9,Wd,We,Wh,Wi,Wj,Wk,Wp,Wq,Hh,Hi,Hk,Ho,Hp,Hq,Hr,Hs,Ht,Hv,Hw,Ne,Ni,Nk,Nl,Nm,No,Nw,Nx,N0,Be,q57R0.eq_1,q57R1.eq_1,q57R2.eq_1,q57R3.eq_1,q57R4.eq_1,q57R5.eq_1,q57R6.eq_1,c_roster_Find.eq_1,hM,hm,h1,h8])
    have hP := fun b f => rplace_P G l b f id hm (by omega) (by omega)
    obtain ⟨c1, c2⟩ := cnt_role l 0 hm id
    by_cases hr : roleOf l id = 0
    · have ht : thereB l id = false := by simp [thereB, hr]
      have hd : decide (roleOf l id ≠ 0) = false := by simp [hr]
      rw [ht]
      rw [hd] at hP
      simp only [Bool.false_eq_true, if_false]
      (sym => simp [Qb,Qc,Qd,Qe,Qf,Qg,Qi,Qj,Qm,Qn,Qo,Qr,Qt,Qu,Qv,Qx,Q1,Q4,Q5,Xa,Xd,Xs,Xw,Xx,Ya,Yc,Yr,Ys,Yu,Yy,Y1,Y6,Y7,Y8,Y9,Za,Zb,Zc,Zd,Ze,Zg,Zh,Zi,Zj,Zk,Zl,Zm,Zn,Zo,Zr,Zs,Zt,Zu,Zv,Zw,Zy,Z0,Z1,Z3,Jb,Jj,Jk,Jl,Jr,Jv,Jx,J1,J2,K8,Ue,Uf,Ug,V6,V9,Wd,We,Wh,Wi,Wj,Wk,Wp,Wq,Hh,Hi,Hk,Ho,Hp,Hq,Hr,Hs,Ht,Hv,Hw,Ne,Ni,Nk,Nl,Nm,No,Nw,Nx,N0,Be,q57R0.eq_1,q57R1.eq_1,q57R2.eq_1,q57R3.eq_1,q57R4.eq_1,q57R5.eq_1,q57R6.eq_1,c_roster_Find.eq_1,hM,hm,h1,h8,hP])
    · have ht : thereB l id = true := by simp [thereB, idB, hm, hr]; omega
      have hd : decide (roleOf l id ≠ 0) = true := by simp [hr]
      obtain ⟨k1, k2⟩ := c1.1 hr
      have hg := mbs_at k1
      rw [c2 k1 k2] at hg
      have k1' : (cntLt l id : Int) < l.length := by omega
      rw [ht]
      rw [hd] at hP
      simp only [if_true]
      (sym => simp [Qb,Qc,Qd,Qe,Qf,Qg,Qi,Qj,Qm,Qn,Qo,Qr,Qt,Qu,Qv,Qx,Q1,Q4,Q5,Xa,Xd,Xs,Xw,Xx,Ya,Yc,Yr,Ys,Yu,Yy,Y1,Y6,Y7,Y8,Y9,Za,Zb,Zc,Zd,Ze,Zg,Zh,Zi,Zj,Zk,Zl,Zm,Zn,Zo,Zr,Zs,Zt,Zu,Zv,Zw,Zy,Z0,Z1,Z3,Jb,Jj,Jk,Jl,Jr,Jv,Jx,J1,J2,K8,Ue,Uf,Ug,V6,V9,Wd,We,Wh,Wi,Wj,Wk,Wp,Wq,Hh,Hi,Hk,Ho,Hp,Hq,Hr,Hs,Ht,Hv,Hw,Ne,Ni,Nk,Nl,Nm,No,Nw,Nx,N0,Be,q57R0.eq_1,q57R1.eq_1,q57R2.eq_1,q57R3.eq_1,q57R4.eq_1,q57R5.eq_1,q57R6.eq_1,c_roster_Find.eq_1,hM,hm,h1,h8,hP,hg,hln,k1'])
end Go.Proofs.YthcnhibjddomdaaGreat
