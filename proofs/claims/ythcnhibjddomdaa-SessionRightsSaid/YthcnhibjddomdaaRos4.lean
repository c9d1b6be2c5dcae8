/- Rosters: Leave, Change, Writers. Conditions: as each statement says. -/
import Derived.Test.YthcnhibjddomdaaRos3
set_option linter.unusedVariables false
set_option linter.unusedSimpArgs false
set_option linter.unusedSectionVars false
set_option maxRecDepth 20000
set_option maxHeartbeats 1000000
namespace Go.Proofs.Ythcnhibjddomdaa
open Go
variable (G : Nat → Option (List AV))
theorem leave1_run (m x : Int × Int) (h : List ARow) (id : Nat) (hid : h[id]? = some ⟨2, 0, true, [cm m]⟩) : aR G FT n_roster_Leave_1 [.agg (cm x), .ptr id 0 0 0] h = some (.bool (decide (x = m)), h ++ [⟨2, 0, true, [cm x]⟩]) := by
  obtain ⟨a, r⟩ := m
  obtain ⟨a2, r2⟩ := x
  unfold cm at hid ⊢
  simp only at hid ⊢
  have hlt := (List.getElem?_eq_some_iff.1 hid).1
  have hg : (h ++ [(⟨2, 0, true, [[.int .i64 a2, .int .i64 r2]]⟩ : ARow)])[h.length]? = some ⟨2, 0, true, [[.int .i64 a2, .int .i64 r2]]⟩ := by simp
  have hg2 : (h ++ [(⟨2, 0, true, [[.int .i64 a2, .int .i64 r2]]⟩ : ARow)])[id]? = some ⟨2, 0, true, [[.int .i64 a, .int .i64 r]]⟩ := by rw [List.getElem?_append_left hlt]; exact hid
  have hd : decide ((a2, r2) = (a, r)) = (decide (a2 = a) && decide (r2 = r)) := by simp [Prod.mk.injEq]
  rw [hd, run_roster_Leave_1]
  (sym => simp [Qb,Qd,Qe,Qi,Qj,Qr,Qw,Q4,Xb,Yj,Yr,Yu,Y1,Y5,Y7,Y9,Za,Zb,Zc,Ze,Zg,Zh,Zi,Zj,Zk,Zl,Zm,Zn,Zr,Zs,Zt,Zu,Zv,Zw,Zy,Z0,Jh,Jj,Jk,Jv,Jx,Kh,Kk,Kl,Km,Ue,Uf,Ug,Hh,Ho,Hq,Hs,No,Be,q26R0.eq_1,q26R1.eq_1,c_roster_Leave_1.eq_1,hg,hg2])
def leaveM (l : List (Int × Int)) (id : Int) : List (Int × Int) × Int := if mayM l = true then if thereB l id = true then (withM l id 0, 0) else ([], 6) else ([], 2)
theorem leave_P (l : List (Int × Int)) (b f : Bool) (id : Int) (hl : l.length < 1000000) : aP G FT n_roster_Leave [.data b 2 (mbs l) f, .int .i64 id] = some (.tup [.data false 2 (mbs (leaveM l id).1) false, .int .i64 (leaveM l id).2]) := by
  have hM := fun b f => smay_P G l b f hl
  have hFi := fun b f => find_P G l b f id hl
  unfold aP leaveM
  rw [run_roster_Leave]
  cases hm : mayM l with
  | false =>
    rw [if_neg (by simp), mbs_nil]
    (sym => simp [Qb,Qc,Qd,Qe,Qi,Qj,Qm,Qn,Qo,Qr,Qt,Qv,Q5,Xd,Xj,Xw,Xx,Y1,Y6,Y7,Y9,Za,Zb,Zc,Zd,Ze,Zg,Zh,Zi,Zj,Zk,Zl,Zm,Zn,Zo,Zp,Zq,Zr,Zs,Zt,Zu,Zv,Zw,Zx,Zy,Zz,Z0,Z1,Z3,Jj,Jk,Jl,Jr,Jv,Jx,J1,J2,Ue,Uf,Ug,Us,U6,Vk,Vm,Vo,Vp,Vq,Vr,Vs,Vt,Vu,Vv,Vw,Vx,V6,V9,Wd,We,Wf,Wg,Wi,Wj,Wp,Wq,Wz,W5,W6,W7,Hh,Hi,Hk,Hp,Hr,Hs,Ht,Hu,Hv,Hw,Hy,Hz,H5,H6,H8,Ne,Nl,No,Nt,Nw,Nx,Nz,N0,Be,q25R0.eq_1,q25R1.eq_1,q25R2.eq_1,q25R3.eq_1,q25R4.eq_1,q25R5.eq_1,q25R6.eq_1,c_roster_Leave.eq_1,hM,hm])
  | true =>
    rw [if_pos rfl]
    cases ht : thereB l id with
    | false =>
      rw [if_neg (by simp), mbs_nil]
      rw [ht] at hFi
      simp only [Bool.false_eq_true, if_false] at hFi
      (sym => simp [Qb,Qc,Qd,Qe,Qi,Qj,Qm,Qn,Qo,Qr,Qt,Qv,Q5,Xd,Xj,Xw,Xx,Y1,Y6,Y7,Y9,Za,Zb,Zc,Zd,Ze,Zg,Zh,Zi,Zj,Zk,Zl,Zm,Zn,Zo,Zp,Zq,Zr,Zs,Zt,Zu,Zv,Zw,Zx,Zy,Zz,Z0,Z1,Z3,Jj,Jk,Jl,Jr,Jv,Jx,J1,J2,Ue,Uf,Ug,Us,U6,Vk,Vm,Vo,Vp,Vq,Vr,Vs,Vt,Vu,Vv,Vw,Vx,V6,V9,Wd,We,Wf,Wg,Wi,Wj,Wp,Wq,Wz,W5,W6,W7,Hh,Hi,Hk,Hp,Hr,Hs,Ht,Hu,Hv,Hw,Hy,Hz,H5,H6,H8,Ne,Nl,No,Nt,Nw,Nx,Nz,N0,Be,q25R0.eq_1,q25R1.eq_1,q25R2.eq_1,q25R3.eq_1,q25R4.eq_1,q25R5.eq_1,q25R6.eq_1,c_roster_Leave.eq_1,hM,hm,hFi])
    | true =>
      rw [if_pos rfl]
      rw [ht] at hFi
      simp only [if_true] at hFi
      have hr : roleOf l id ≠ 0 := by simp [thereB] at ht; exact ht.2
      have hlw := leave_with hm hr
      have hC := fun b f => clone_M_run G b f l (by omega)
      have hln := mbs_len l
      have tkl : List.take l.length (mbs l) = mbs l := List.take_of_length_le (by omega)
      have hD := delj_Member G cm (0, 0) rfl (fun _ => rfl) (fun x => by simp [cm, AV.stableL, AV.stable]) l 1 0 l.length n_roster_Leave_1 [] [.ptr 0 0 0 0] (fun x => decide (x = (id, roleOf l id))) [⟨2, 0, true, [cm (id, roleOf l id)]⟩, ⟨2, 0, true, mbs l⟩]
        (by simp) (fun r hr' i hi => by simp at hr'; rcases hr' with rfl | rfl <;> simp [ARow.ids] at hi) (by simp [AV.idsL, AV.ids]) (by have := mayM_len hm; omega) (Nat.le_refl _) (fun x => [⟨2, 0, true, [cm x]⟩])
        (fun R x e => by
          have := leave1_run G (id, roleOf l id) x ([⟨2, 0, true, [cm (id, roleOf l id)]⟩, ⟨2, 0, true, List.map cm R⟩] ++ e) 0 rfl
          rw [List.append_assoc] at this
          exact this) rfl
      rw [hlw] at hD
      have hwl : (withM l id 0).length ≤ l.length := by rw [← hlw]; exact List.length_filter_le _ _
      generalize withM l id 0 = W at hD hwl
      simp only [List.set_cons_succ, List.set_cons_zero, cm] at hD
      have tkw : List.take W.length (List.map cm (W ++ List.replicate (l.length - W.length) (0, 0))) = mbs W := by rw [List.map_append, List.take_left' (by simp)]; rfl
      have hwl2 : W.length ≤ (W ++ List.replicate (l.length - W.length) ((0 : Int), (0 : Int))).length := by simp
      have ml : (List.map cm (W ++ List.replicate (l.length - W.length) ((0 : Int), (0 : Int)))).length = l.length := by simp; omega
      (sym => simp [Qb,Qc,Qd,Qe,Qi,Qj,Qm,Qn,Qo,Qr,Qt,Qv,Q5,Xd,Xj,Xw,Xx,Y1,Y6,Y7,Y9,Za,Zb,Zc,Zd,Ze,Zg,Zh,Zi,Zj,Zk,Zl,Zm,Zn,Zo,Zp,Zq,Zr,Zs,Zt,Zu,Zv,Zw,Zx,Zy,Zz,Z0,Z1,Z3,Jj,Jk,Jl,Jr,Jv,Jx,J1,J2,Ue,Uf,Ug,Us,U6,Vk,Vm,Vo,Vp,Vq,Vr,Vs,Vt,Vu,Vv,Vw,Vx,V6,V9,Wd,We,Wf,Wg,Wi,Wj,Wp,Wq,Wz,W5,W6,W7,Hh,Hi,Hk,Hp,Hr,Hs,Ht,Hu,Hv,Hw,Hy,Hz,H5,H6,H8,Ne,Nl,No,Nt,Nw,Nx,Nz,N0,Be,q25R0.eq_1,q25R1.eq_1,q25R2.eq_1,q25R3.eq_1,q25R4.eq_1,q25R5.eq_1,q25R6.eq_1,c_roster_Leave.eq_1,hM,hm,hFi,hC,tkl,hln,hD,tkw,ml,hwl])
def changeM (l : List (Int × Int)) (id r : Int) : List (Int × Int) × Int := if mayM l = true ∧ roleB r = true then if thereB l id = true then (withM l id r, 0) else ([], 6) else ([], 2)
theorem change_P (l : List (Int × Int)) (b f : Bool) (id r : Int) (hl : l.length < 1000000) : aP G FT n_roster_Change [.data b 2 (mbs l) f, .int .i64 id, .int .i64 r] = some (.tup [.data false 2 (mbs (changeM l id r).1) false, .int .i64 (changeM l id r).2]) := by
  have hM := fun b f => smay_P G l b f hl
  have hFi := fun b f => find_P G l b f id hl
  have hR := role_P G r
  unfold aP changeM
  rw [run_roster_Change]
  cases hm : mayM l with
  | false =>
    rw [if_neg (by simp), mbs_nil]
    (sym => simp [Qb,Qc,Qd,Qe,Qf,Qg,Qi,Qj,Qm,Qn,Qo,Qr,Qt,Qu,Qv,Q5,Xd,Xp,Xs,Xw,Xx,Yv,Yx,Y1,Y6,Y7,Y9,Za,Zb,Zc,Zd,Ze,Zg,Zh,Zi,Zj,Zk,Zl,Zm,Zn,Zo,Zp,Zr,Zs,Zt,Zu,Zv,Zw,Zx,Zy,Zz,Z0,Z1,Z3,Jb,Jj,Jk,Jl,Jr,Jv,Jx,J1,J2,J3,Ue,Uf,Ug,Us,U6,Vk,Vm,Vo,Vp,Vq,Vr,Vs,Vt,Vu,Vv,Vw,Vx,V6,V9,Wd,We,Wf,Wg,Wi,Wj,Wp,Wq,Wz,W5,W6,W7,Hh,Hi,Hk,Hl,Hp,Hr,Hs,Ht,Hu,Hv,Hw,Hy,Hz,H5,H6,H8,Ne,Ng,Ni,Nk,Nl,No,Nt,Nw,Nx,Nz,N0,Be,q22R0.eq_1,q22R1.eq_1,q22R2.eq_1,q22R3.eq_1,q22R4.eq_1,q22R5.eq_1,q22R6.eq_1,q22R7.eq_1,q22R8.eq_1,q22R9.eq_1,c_roster_Change.eq_1,hM,hm])
  | true =>
    cases hrb : roleB r with
    | false =>
      rw [if_neg (by simp), mbs_nil]
      (sym => simp [Qb,Qc,Qd,Qe,Qf,Qg,Qi,Qj,Qm,Qn,Qo,Qr,Qt,Qu,Qv,Q5,Xd,Xp,Xs,Xw,Xx,Yv,Yx,Y1,Y6,Y7,Y9,Za,Zb,Zc,Zd,Ze,Zg,Zh,Zi,Zj,Zk,Zl,Zm,Zn,Zo,Zp,Zr,Zs,Zt,Zu,Zv,Zw,Zx,Zy,Zz,Z0,Z1,Z3,Jb,Jj,Jk,Jl,Jr,Jv,Jx,J1,J2,J3,Ue,Uf,Ug,Us,U6,Vk,Vm,Vo,Vp,Vq,Vr,Vs,Vt,Vu,Vv,Vw,Vx,V6,V9,Wd,We,Wf,Wg,Wi,Wj,Wp,Wq,Wz,W5,W6,W7,Hh,Hi,Hk,Hl,Hp,Hr,Hs,Ht,Hu,Hv,Hw,Hy,Hz,H5,H6,H8,Ne,Ng,Ni,Nk,Nl,No,Nt,Nw,Nx,Nz,N0,Be,q22R0.eq_1,q22R1.eq_1,q22R2.eq_1,q22R3.eq_1,q22R4.eq_1,q22R5.eq_1,q22R6.eq_1,q22R7.eq_1,q22R8.eq_1,q22R9.eq_1,c_roster_Change.eq_1,hM,hm,hR,hrb])
    | true =>
      rw [if_pos ⟨rfl, rfl⟩]
      cases ht : thereB l id with
      | false =>
        rw [if_neg (by simp), mbs_nil]
        rw [ht] at hFi
        simp only [Bool.false_eq_true, if_false] at hFi
        (sym => simp [Qb,Qc,Qd,Qe,Qf,Qg,Qi,Qj,Qm,Qn,Qo,Qr,Qt,Qu,Qv,Q5,Xd,Xp,Xs,Xw,Xx,Yv,Yx,Y1,Y6,Y7,Y9,Za,Zb,Zc,Zd,Ze,Zg,Zh,Zi,Zj,Zk,Zl,Zm,Zn,Zo,Zp,Zr,Zs,Zt,Zu,Zv,Zw,Zx,Zy,Zz,Z0,Z1,Z3,Jb,Jj,Jk,Jl,Jr,Jv,Jx,J1,J2,J3,Ue,Uf,Ug,Us,U6,Vk,Vm,Vo,Vp,Vq,Vr,Vs,Vt,Vu,Vv,Vw,Vx,V6,V9,Wd,We,Wf,Wg,Wi,Wj,Wp,Wq,Wz,W5,W6,W7,Hh,Hi,Hk,Hl,Hp,Hr,Hs,Ht,Hu,Hv,Hw,Hy,Hz,H5,H6,H8,Ne,Ng,Ni,Nk,Nl,No,Nt,Nw,Nx,Nz,N0,Be,q22R0.eq_1,q22R1.eq_1,q22R2.eq_1,q22R3.eq_1,q22R4.eq_1,q22R5.eq_1,q22R6.eq_1,q22R7.eq_1,q22R8.eq_1,q22R9.eq_1,c_roster_Change.eq_1,hM,hm,hR,hrb,hFi])
      | true =>
        rw [if_pos rfl]
        rw [ht] at hFi
        simp only [if_true] at hFi
        have ht' := ht
        simp only [thereB, idB, Bool.and_eq_true, decide_eq_true_eq] at ht'
        obtain ⟨⟨_, h1, h8⟩, hr⟩ := ht'
        have hr12 : r = 1 ∨ r = 2 := by simpa [roleB] using hrb
        have hcw := change_with hm hr12 hr
        have hP := fun b f => rplace_P G l b f id hm h1 h8
        obtain ⟨c1, c2⟩ := cnt_role l 0 hm id
        obtain ⟨k1, k2⟩ := c1.1 hr
        have hg := mbs_at k1
        rw [c2 k1 k2] at hg
        have k1' : (cntLt l id : Int) < l.length := by omega
        have hC := fun b f => clone_M_run G b f l (by omega)
        have hln := mbs_len l
        have tkl : List.take l.length (mbs l) = mbs l := List.take_of_length_le (by omega)
        have hst : (mbs l).set (cntLt l id) [.int .i64 id, .int .i64 r] = mbs (withM l id r) := by rw [← hcw, ← mbs_set]
        have hwl : (mbs (withM l id r)).length = l.length := by rw [← hst, List.length_set, hln]
        have tkw : List.take l.length (mbs (withM l id r)) = mbs (withM l id r) := List.take_of_length_le (by omega)
        (sym => simp [Qb,Qc,Qd,Qe,Qf,Qg,Qi,Qj,Qm,Qn,Qo,Qr,Qt,Qu,Qv,Q5,Xd,Xp,Xs,Xw,Xx,Yv,Yx,Y1,Y6,Y7,Y9,Za,Zb,Zc,Zd,Ze,Zg,Zh,Zi,Zj,Zk,Zl,Zm,Zn,Zo,Zp,Zr,Zs,Zt,Zu,Zv,Zw,Zx,Zy,Zz,Z0,Z1,Z3,Jb,Jj,Jk,Jl,Jr,Jv,Jx,J1,J2,J3,Ue,Uf,Ug,Us,U6,Vk,Vm,Vo,Vp,Vq,Vr,Vs,Vt,Vu,Vv,Vw,Vx,V6,V9,Wd,We,Wf,Wg,Wi,Wj,Wp,Wq,Wz,W5,W6,W7,Hh,Hi,Hk,Hl,Hp,Hr,Hs,Ht,Hu,Hv,Hw,Hy,Hz,H5,H6,H8,Ne,Ng,Ni,Nk,Nl,No,Nt,Nw,Nx,Nz,N0,Be,q22R0.eq_1,q22R1.eq_1,q22R2.eq_1,q22R3.eq_1,q22R4.eq_1,q22R5.eq_1,q22R6.eq_1,q22R7.eq_1,q22R8.eq_1,q22R9.eq_1,c_roster_Change.eq_1,hM,hm,hR,hrb,hFi,hC,hP,tkl,hln,hg,k1',hst,hwl,tkw])
/-- The numbers of those who may write. -/
def writersM (l : List (Int × Int)) : List Int := (l.filter fun m => decide (m.2 = 2)).map (·.1)
theorem writers_loop (l : List (Int × Int)) (b f : Bool) (hl : l.length < 1000000) : ∀ (m i : Nat) (out : List Int), i + m = l.length → out.length ≤ i → ∀ st, agc 0 [3, 9, 10, 11] st = some ⟨[(3, .own 0 0 0 out.length out.length), (9, .data b 2 (mbs l) f), (10, .int .i64 l.length), (11, .int .i64 i)], [⟨1, 0, true, ints out⟩]⟩ →
    aE G FT 0 lp_roster_Writers_0 st = some (.exit 0, ⟨[(3, .own 0 0 0 (out ++ writersM (l.drop i)).length (out ++ writersM (l.drop i)).length), (9, .data b 2 (mbs l) f), (10, .int .i64 l.length), (11, .int .i64 l.length), (12, .bool false)], [⟨1, 0, true, ints (out ++ writersM (l.drop i))⟩]⟩) := by
  intro m
  induction m with
  | zero =>
    intro i out hi ho st hst
    rw [lp_roster_Writers_0, y_loop, hst]
    have e : l.drop i = [] := List.drop_eq_nil_of_le (by omega)
    have ei : i = l.length := by omega
    subst ei
    have e0 : decide ((l.length : Int) < l.length) = false := by simp
    have ew : writersM [] = [] := rfl
    rw [e, ew, List.append_nil]
    (sym => simp [Qa,Qc,Qd,Qe,Qi,Qj,Qr,Qt,Qv,Qz,Q0,Q2,Q4,Q5,Xa,Xp,Xs,X0,X5,X8,Ya,Yk,Yr,Ys,Yt,Yu,Yv,Yy,Y2,Y9,Za,Zb,Zc,Zd,Ze,Zg,Zh,Zk,Zl,Zm,Zn,Zt,Zv,Zw,Zx,Zy,Zz,Z0,Z1,Z3,Jj,Jk,Jm,Jn,Jo,Jr,Js,Ju,Jv,J1,J2,Kv,Kx,Ua,Ub,Uc,Ud,Ue,Uf,Ug,Us,Ux,U0,U4,U5,U6,Vb,Ve,Vk,Vm,Vo,Vp,Vq,Vr,Vs,Vt,Vu,Vv,Vw,Vx,Vy,Vz,V0,Hh,Hi,Hk,Hl,Ho,Hp,Hq,Hr,Hs,Ht,Hu,Hv,Hw,H1,H2,H3,H5,H6,H8,Ng,Nh,Ni,Nk,Nl,Nm,No,Nx,Nz,N0,N2,Be,Bg,q29R0.eq_1,q29R1.eq_1,q29R2.eq_1,q29R3.eq_1,q29R4.eq_1,q29R5.eq_1,q29R6.eq_1,q29R7.eq_1,q29R8.eq_1,q29R9.eq_1,q29R10.eq_1,c_roster_Writers.eq_1,c_roster_Writers_L0.eq_1,e0])
  | succ m ih =>
    intro i out hi ho st hst
    have hlt : i < l.length := by omega
    have hlt' : (i : Int) < l.length := by omega
    have e : l.drop i = l[i] :: l.drop (i + 1) := List.drop_eq_getElem_cons hlt
    have hw := wrap_nat (n := i) (by omega)
    have hg := mbs_at hlt
    have hln := mbs_len l
    have hlo := ints_len out
    have b1 : (out.length + 1) * 8 ≤ 140737488355328 := by omega
    have n1 : out.length + 1 ≤ out.length ↔ False := by simp
    have tk : List.take out.length (ints out) = ints out := List.take_of_length_le (by rw [hlo]; exact Nat.le_refl _)
    rw [e]
    rw [lp_roster_Writers_0] at ih
    rw [lp_roster_Writers_0, y_loop, hst]
    obtain ⟨x, hx0⟩ : ∃ x, l[i] = x := ⟨_, rfl⟩
    rw [hx0] at hg ⊢
    by_cases hx : x.2 = 2
    · have ih := ih (i + 1) (out ++ [x.1]) (by omega) (by simp; omega)
      have ew : writersM (x :: l.drop (i + 1)) = [x.1] ++ writersM (l.drop (i + 1)) := by simp [writersM, hx]
      rw [ew, ← List.append_assoc]
      generalize out ++ [x.1] ++ writersM (l.drop (i + 1)) = R at ih ⊢
      rw [ints_append, ints_cons, ints_nil] at ih
      have hla : (out ++ [x.1]).length = out.length + 1 := by simp
      rw [hla] at ih
      (sym => simp [Qa,Qc,Qd,Qe,Qi,Qj,Qr,Qt,Qv,Qz,Q0,Q2,Q4,Q5,Xa,Xp,Xs,X0,X5,X8,Ya,Yk,Yr,Ys,Yt,Yu,Yv,Yy,Y2,Y9,Za,Zb,Zc,Zd,Ze,Zg,Zh,Zk,Zl,Zm,Zn,Zt,Zv,Zw,Zx,Zy,Zz,Z0,Z1,Z3,Jj,Jk,Jm,Jn,Jo,Jr,Js,Ju,Jv,J1,J2,Kv,Kx,Ua,Ub,Uc,Ud,Ue,Uf,Ug,Us,Ux,U0,U4,U5,U6,Vb,Ve,Vk,Vm,Vo,Vp,Vq,Vr,Vs,Vt,Vu,Vv,Vw,Vx,Vy,Vz,V0,Hh,Hi,Hk,Hl,Ho,Hp,Hq,Hr,Hs,Ht,Hu,Hv,Hw,H1,H2,H3,H5,H6,H8,Ng,Nh,Ni,Nk,Nl,Nm,No,Nx,Nz,N0,N2,Be,Bg,q29R0.eq_1,q29R1.eq_1,q29R2.eq_1,q29R3.eq_1,q29R4.eq_1,q29R5.eq_1,q29R6.eq_1,q29R7.eq_1,q29R8.eq_1,q29R9.eq_1,q29R10.eq_1,c_roster_Writers.eq_1,c_roster_Writers_L0.eq_1,hlt',hg,hln,hlo,hw,b1,n1,tk,hx]; tactic => (
        refine ih _ ?_
        (sym => simp [Qa,Qc,Qd,Qe,Qi,Qj,Qr,Qt,Qv,Qz,Q0,Q2,Q4,Q5,Xa,Xp,Xs,X0,X5,X8,Ya,Yk,Yr,Ys,Yt,Yu,Yv,Yy,Y2,Y9,Za,Zb,Zc,Zd,Ze,Zg,Zh,Zk,Zl,Zm,Zn,Zt,Zv,Zw,Zx,Zy,Zz,Z0,Z1,Z3,Jj,Jk,Jm,Jn,Jo,Jr,Js,Ju,Jv,J1,J2,Kv,Kx,Ua,Ub,Uc,Ud,Ue,Uf,Ug,Us,Ux,U0,U4,U5,U6,Vb,Ve,Vk,Vm,Vo,Vp,Vq,Vr,Vs,Vt,Vu,Vv,Vw,Vx,Vy,Vz,V0,Hh,Hi,Hk,Hl,Ho,Hp,Hq,Hr,Hs,Ht,Hu,Hv,Hw,H1,H2,H3,H5,H6,H8,Ng,Nh,Ni,Nk,Nl,Nm,No,Nx,Nz,N0,N2,Be,Bg,hlo])))
    · have ih := ih (i + 1) out (by omega) (by omega)
      have ew : writersM (x :: l.drop (i + 1)) = writersM (l.drop (i + 1)) := by simp [writersM, hx]
      rw [ew]
      generalize out ++ writersM (l.drop (i + 1)) = R at ih ⊢
      (sym => simp [Qa,Qc,Qd,Qe,Qi,Qj,Qr,Qt,Qv,Qz,Q0,Q2,Q4,Q5,Xa,Xp,Xs,X0,X5,X8,Ya,Yk,Yr,Ys,Yt,Yu,Yv,Yy,Y2,Y9,Za,Zb,Zc,Zd,Ze,Zg,Zh,Zk,Zl,Zm,Zn,Zt,Zv,Zw,Zx,Zy,Zz,Z0,Z1,Z3,Jj,Jk,Jm,Jn,Jo,Jr,Js,Ju,Jv,J1,J2,Kv,Kx,Ua,Ub,Uc,Ud,Ue,Uf,Ug,Us,Ux,U0,U4,U5,U6,Vb,Ve,Vk,Vm,Vo,Vp,Vq,Vr,Vs,Vt,Vu,Vv,Vw,Vx,Vy,Vz,V0,Hh,Hi,Hk,Hl,Ho,Hp,Hq,Hr,Hs,Ht,Hu,Hv,Hw,H1,H2,H3,H5,H6,H8,Ng,Nh,Ni,Nk,Nl,Nm,No,Nx,Nz,N0,N2,Be,Bg,q29R0.eq_1,q29R1.eq_1,q29R2.eq_1,q29R3.eq_1,q29R4.eq_1,q29R5.eq_1,q29R6.eq_1,q29R7.eq_1,q29R8.eq_1,q29R9.eq_1,q29R10.eq_1,c_roster_Writers.eq_1,c_roster_Writers_L0.eq_1,hlt',hg,hln,hlo,hw,hx]; tactic => (
        refine ih _ ?_
        (sym => simp [Qa,Qc,Qd,Qe,Qi,Qj,Qr,Qt,Qv,Qz,Q0,Q2,Q4,Q5,Xa,Xp,Xs,X0,X5,X8,Ya,Yk,Yr,Ys,Yt,Yu,Yv,Yy,Y2,Y9,Za,Zb,Zc,Zd,Ze,Zg,Zh,Zk,Zl,Zm,Zn,Zt,Zv,Zw,Zx,Zy,Zz,Z0,Z1,Z3,Jj,Jk,Jm,Jn,Jo,Jr,Js,Ju,Jv,J1,J2,Kv,Kx,Ua,Ub,Uc,Ud,Ue,Uf,Ug,Us,Ux,U0,U4,U5,U6,Vb,Ve,Vk,Vm,Vo,Vp,Vq,Vr,Vs,Vt,Vu,Vv,Vw,Vx,Vy,Vz,V0,Hh,Hi,Hk,Hl,Ho,Hp,Hq,Hr,Hs,Ht,Hu,Hv,Hw,H1,H2,H3,H5,H6,H8,Ng,Nh,Ni,Nk,Nl,Nm,No,Nx,Nz,N0,N2,Be,Bg,hlo])))
theorem writers_P (l : List (Int × Int)) (b f : Bool) (hl : l.length < 1000000) : aP G FT n_roster_Writers [.data b 2 (mbs l) f] = some (.data false 1 (ints (if mayM l = true then writersM l else [])) false) := by
  have hM := fun b f => smay_P G l b f hl
  have hln := mbs_len l
  unfold aP
  rw [run_roster_Writers]
  cases hm : mayM l with
  | false =>
    rw [if_neg (by simp), ints_nil]
    (sym => simp [Qb,Qc,Qd,Qe,Qi,Qj,Qm,Qn,Qo,Qr,Qs,Qt,Xd,Xy,Yh,Y1,Y5,Y7,Y9,Za,Zb,Zc,Ze,Zg,Zh,Zi,Zj,Zk,Zl,Zm,Zn,Zo,Zr,Zs,Zt,Zu,Zv,Zw,Zx,Zy,Zz,Z0,Z3,Jj,Jk,Jl,Jn,Jq,Jr,Jv,Jx,Us,Ux,U0,U4,U5,U6,Vb,Ve,Vk,Vm,Vo,Vp,Vq,Vr,Vs,Vt,Vu,Vv,Vw,Vx,Vy,Vz,V0,V9,Wd,We,Wf,Wg,Hh,Hp,Hs,Hv,Hw,H1,H5,H6,H8,Ng,Nl,No,Nw,Nx,Nz,Be,q29R0.eq_1,q29R1.eq_1,q29R2.eq_1,q29R3.eq_1,q29R4.eq_1,q29R5.eq_1,q29R6.eq_1,q29R7.eq_1,q29R8.eq_1,q29R9.eq_1,q29R10.eq_1,c_roster_Writers.eq_1,hM,hm])
  | true =>
    rw [if_pos rfl]
    have key := writers_loop G l b f hl l.length 0 [] (by omega) (by simp)
    simp only [List.drop_zero, List.nil_append, ints_nil, List.length_nil, Int.natCast_zero] at key
    have hlw := ints_len (writersM l)
    have tk : List.take (writersM l).length (ints (writersM l)) = ints (writersM l) := List.take_of_length_le (by omega)
    (sym => simp [Qb,Qc,Qd,Qe,Qi,Qj,Qm,Qn,Qo,Qr,Qs,Qt,Xd,Xy,Yh,Y1,Y5,Y7,Y9,Za,Zb,Zc,Ze,Zg,Zh,Zi,Zj,Zk,Zl,Zm,Zn,Zo,Zr,Zs,Zt,Zu,Zv,Zw,Zx,Zy,Zz,Z0,Z3,Jj,Jk,Jl,Jn,Jq,Jr,Jv,Jx,Us,Ux,U0,U4,U5,U6,Vb,Ve,Vk,Vm,Vo,Vp,Vq,Vr,Vs,Vt,Vu,Vv,Vw,Vx,Vy,Vz,V0,V9,Wd,We,Wf,Wg,Hh,Hp,Hs,Hv,Hw,H1,H5,H6,H8,Ng,Nl,No,Nw,Nx,Nz,Be,q29R0.eq_1,q29R1.eq_1,q29R2.eq_1,q29R3.eq_1,q29R4.eq_1,q29R5.eq_1,q29R6.eq_1,q29R7.eq_1,q29R8.eq_1,q29R9.eq_1,q29R10.eq_1,c_roster_Writers.eq_1,hM,hm,hln]; tactic => (
      rw [key _ ?hst]
      case hst => (sym => simp [Qb,Qc,Qd,Qe,Qi,Qj,Qm,Qn,Qo,Qr,Qs,Qt,Xd,Xy,Yh,Y1,Y5,Y7,Y9,Za,Zb,Zc,Ze,Zg,Zh,Zi,Zj,Zk,Zl,Zm,Zn,Zo,Zr,Zs,Zt,Zu,Zv,Zw,Zx,Zy,Zz,Z0,Z3,Jj,Jk,Jl,Jn,Jq,Jr,Jv,Jx,Us,Ux,U0,U4,U5,U6,Vb,Ve,Vk,Vm,Vo,Vp,Vq,Vr,Vs,Vt,Vu,Vv,Vw,Vx,Vy,Vz,V0,V9,Wd,We,Wf,Wg,Hh,Hp,Hs,Hv,Hw,H1,H5,H6,H8,Ng,Nl,No,Nw,Nx,Nz,Be])
      (sym => simp [Qb,Qc,Qd,Qe,Qi,Qj,Qm,Qn,Qo,Qr,Qs,Qt,Xd,Xy,Yh,Y1,Y5,Y7,Y9,Za,Zb,Zc,Ze,Zg,Zh,Zi,Zj,Zk,Zl,Zm,Zn,Zo,Zr,Zs,Zt,Zu,Zv,Zw,Zx,Zy,Zz,Z0,Z3,Jj,Jk,Jl,Jn,Jq,Jr,Jv,Jx,Us,Ux,U0,U4,U5,U6,Vb,Ve,Vk,Vm,Vo,Vp,Vq,Vr,Vs,Vt,Vu,Vv,Vw,Vx,Vy,Vz,V0,V9,Wd,We,Wf,Wg,Hh,Hp,Hs,Hv,Hw,H1,H5,H6,H8,Ng,Nl,No,Nw,Nx,Nz,Be,q29R0.eq_1,q29R1.eq_1,q29R2.eq_1,q29R3.eq_1,q29R4.eq_1,q29R5.eq_1,q29R6.eq_1,q29R7.eq_1,q29R8.eq_1,q29R9.eq_1,q29R10.eq_1,c_roster_Writers.eq_1,hlw,tk])))
end Go.Proofs.Ythcnhibjddomdaa
