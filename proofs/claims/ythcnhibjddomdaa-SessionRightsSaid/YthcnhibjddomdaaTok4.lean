/- What token.Keep comes to. Conditions: none. -/
import Derived.Test.YthcnhibjddomdaaTok3
import Derived.Test.YthcnhibjddomdaaFn
set_option linter.unusedVariables false
set_option linter.unusedSimpArgs false
set_option linter.unusedSectionVars false
set_option maxRecDepth 20000
set_option maxHeartbeats 1000000
namespace Go.Proofs.Ythcnhibjddomdaa
open Go
variable (G : Nat → Option (List AV))
theorem idxFrom_mem (x : Int) : ∀ (l : List Int) (i : Nat), (0 ≤ idxFrom x l i) ↔ x ∈ l
  | [], i => by simp [idxFrom]
  | y :: l, i => by
    unfold idxFrom
    by_cases h : x = y
    · simp [h]
    · rw [if_neg h, idxFrom_mem x l (i + 1)]; simp [h]
theorem contains_P (l : List Int) (b f : Bool) (x : Int) (hl : l.length < 9223372036854775807) : aP G FT n_slices_Contains_int [.data b 1 (ints l) f, .int .i64 x] = some (.bool (decide (x ∈ l))) := by
  unfold aP
  rw [run_slices_Contains_int]
  have hi := fun b f => index_P G l b f x hl
  have hm : decide (0 ≤ idxFrom x l 0) = decide (x ∈ l) := by simp [idxFrom_mem x l 0]
  (sym => simp [Qb,Qd,Qe,Qi,Qj,Qm,Qn,Qo,Qr,Xa,Yd,Y1,Y5,Y7,Y9,Za,Zb,Zc,Ze,Zg,Zh,Zi,Zj,Zk,Zl,Zm,Zo,Zr,Zs,Zt,Zu,Zv,Zw,Jj,Jk,Jv,Jx,V6,V9,Wd,We,Wk,Be,q66R0.eq_1,q66R1.eq_1,c_slices_Contains_int.eq_1,hi,hm])
theorem gone_run (ids : List Int) (b f fl : Bool) (x : Int) (h : List ARow) (id : Nat) (hl : ids.length < 9223372036854775807) (hrow : h[id]? = some ⟨1, 0, fl, [[.data b 1 (ints ids) f]]⟩) :
    aR G FT n_token_Keep_1 [.int .i64 x, .ptr id 0 0 0] h = some (.bool (!decide (x ∈ ids)), h) := by
  rw [run_token_Keep_1]
  have hc := fun b f => contains_P G ids b f x hl
  (sym => simp [Qb,Qd,Qe,Qi,Qj,Qm,Qn,Qo,Qr,Qt,Q4,Xd,Yr,Yt,Y1,Y5,Y7,Y9,Za,Zb,Zc,Ze,Zg,Zh,Zi,Zj,Zk,Zl,Zo,Zr,Zs,Zt,Zu,Zv,Zw,Zy,Z0,Jj,Jk,Jv,Jx,V6,V9,Wd,We,Hh,Be,q87R0.eq_1,q87R1.eq_1,c_token_Keep_1.eq_1,hrow,hc])
def keepT (h : Int) (q ids : List Int) : Int × List Int × Int :=
  if mayT h q = true then
    if h ≠ 0 ∧ h ∉ ids then (match q.filter fun x => decide (x ∈ ids) with | [] => (0, [], 0) | x :: q => (x, q, 0)) else (h, q.filter fun x => decide (x ∈ ids), 0)
  else (0, [], 2)
theorem keep_P (h : Int) (q ids : List Int) (b f b2 f2 : Bool) (hl : q.length ≤ 1000) (hi : ids.length ≤ 1000) :
    aP G FT n_token_Keep [.agg [.int .i64 h, .data b 1 (ints q) f], .data b2 1 (ints ids) f2] = some (.tup [tokV (keepT h q ids).1 (keepT h q ids).2.1, .int .i64 (keepT h q ids).2.2]) := by
  have hM := fun b f => may_P G h q b f hl
  have hC := fun b f => clone_int_run G b f q (by omega)
  unfold aP keepT tokV
  rw [run_token_Keep]
  by_cases hm : mayT h q = true
  · rw [if_pos hm]
    (sym => simp [Qb,Qc,Qd,Qe,Qf,Qg,Qi,Qj,Qm,Qn,Qo,Qp,Qq,Qr,Qt,Qu,Qv,Qw,Qx,Qy,Q1,Q4,Q5,Q6,Q9,Xa,Xd,Xj,Xl,Xm,Xn,Xp,Xs,Xy,X9,Yc,Yg,Yj,Yk,Yn,Yo,Yr,Yt,Yu,Yv,Yx,Y1,Y4,Y5,Y6,Y7,Y8,Y9,Za,Zb,Zc,Zd,Ze,Zg,Zh,Zi,Zj,Zk,Zl,Zm,Zn,Zo,Zp,Zq,Zr,Zs,Zt,Zu,Zv,Zw,Zx,Zy,Zz,Z0,Z1,Z3,Ja,Jj,Jk,Jl,Jr,Jv,Jw,Jx,J1,J2,J3,J7,J9,K0,K1,K2,K8,K9,Ue,Uf,Ug,Uj,Ul,Uq,Ur,Us,U6,Vk,Vm,Vo,Vp,Vq,Vr,Vs,Vt,Vu,Vv,Vw,Vx,V3,V6,V9,Wd,We,Wf,Wg,Wh,Wi,Wj,Wp,Wq,Wz,W5,W6,W7,Hh,Hi,Hk,Hl,Ho,Hp,Hq,Hr,Hs,Ht,Hu,Hv,Hw,Hx,Hy,Hz,H5,H6,H8,Na,Ne,Nf,Ng,Nl,Nm,No,Np,Nq,Nt,Nw,Nx,Nz,N0,Be,Bh,Bi,q86R0.eq_1,q86R1.eq_1,q86R2.eq_1,q86R3.eq_1,q86R4.eq_1,c_token_Keep.eq_1,run_token_change,q92R0.eq_1,q92R1.eq_1,q92R2.eq_1,q92R3.eq_1,c_token_change.eq_1,run_token_Keep_2,q88R0.eq_1,q88R1.eq_1,q88R2.eq_1,c_token_Keep_2.eq_1,hM,hC,hm]; tactic => (
      rw [delfn_int G q 6 0 q.length _ _ _ (fun x => !decide (x ∈ ids)) _ ?h1 ?h2 ?h3 ?h4 ?h5 ?h6 rfl]
      case h1 => simp
      case h2 => intro r hr i hi; simp at hr; rcases hr with rfl | rfl | rfl | rfl | rfl | rfl | rfl | rfl <;> simp_all [ARow.ids, AV.idsL, AV.ids]
      case h3 => simp [AV.idsL, AV.ids]
      case h4 => omega
      case h5 => omega
      case h6 => intro R x; exact gone_run G ids b2 f2 _ x _ 1 (by omega) rfl
      simp only [Bool.not_not]
      have hfl : (q.filter fun x => decide (x ∈ ids)).length ≤ q.length := List.length_filter_le _ _
      generalize (q.filter fun x => decide (x ∈ ids)) = q' at hfl
      have t1 : List.take q'.length (ints q' ++ ints (List.replicate (q.length - q'.length) 0)) = ints q' := List.take_left' (ints_len q')
      have t2 : q'.length ≤ q'.length + (q.length - q'.length) := by omega
      have lr : ∀ n, (List.replicate n (0 : Int)).length = n := fun n => by simp
      have go := fun (fl : Bool) (rows : List ARow) => gone_run G ids b2 f2 fl h rows 1 (by omega)
      by_cases he : h ≠ 0 ∧ h ∉ ids
      · obtain ⟨he1, he2⟩ := he
        have hgone : ∀ (r0 : ARow) (fl : Bool) (rows : List ARow), aR G FT n_token_Keep_1 [.int .i64 h, .ptr 1 0 0 0] (r0 :: ⟨1, 0, fl, [[.data b2 1 (ints ids) f2]]⟩ :: rows) = some (.bool true, r0 :: ⟨1, 0, fl, [[.data b2 1 (ints ids) f2]]⟩ :: rows) := fun r0 fl rows => by
          rw [go fl _ rfl]; simp [he2]
        rw [if_pos ⟨he1, he2⟩]
        cases q' with
        | nil => (sym => simp [Qb,Qc,Qd,Qe,Qf,Qg,Qi,Qj,Qm,Qn,Qo,Qp,Qq,Qr,Qt,Qu,Qv,Qw,Qx,Qy,Q1,Q4,Q5,Q6,Q9,Xa,Xd,Xj,Xl,Xm,Xn,Xp,Xs,Xy,X9,Yc,Yg,Yj,Yk,Yn,Yo,Yr,Yt,Yu,Yv,Yx,Y1,Y4,Y5,Y6,Y7,Y8,Y9,Za,Zb,Zc,Zd,Ze,Zg,Zh,Zi,Zj,Zk,Zl,Zm,Zn,Zo,Zp,Zq,Zr,Zs,Zt,Zu,Zv,Zw,Zx,Zy,Zz,Z0,Z1,Z3,Ja,Jj,Jk,Jl,Jr,Jv,Jw,Jx,J1,J2,J3,J7,J9,K0,K1,K2,K8,K9,Ue,Uf,Ug,Uj,Ul,Uq,Ur,Us,U6,Vk,Vm,Vo,Vp,Vq,Vr,Vs,Vt,Vu,Vv,Vw,Vx,V3,V6,V9,Wd,We,Wf,Wg,Wh,Wi,Wj,Wp,Wq,Wz,W5,W6,W7,Hh,Hi,Hk,Hl,Ho,Hp,Hq,Hr,Hs,Ht,Hu,Hv,Hw,Hx,Hy,Hz,H5,H6,H8,Na,Ne,Nf,Ng,Nl,Nm,No,Np,Nq,Nt,Nw,Nx,Nz,N0,Be,Bh,Bi,q86R0.eq_1,q86R1.eq_1,q86R2.eq_1,q86R3.eq_1,q86R4.eq_1,c_token_Keep.eq_1,run_token_change,q92R0.eq_1,q92R1.eq_1,q92R2.eq_1,q92R3.eq_1,c_token_change.eq_1,run_token_Keep_2,q88R0.eq_1,q88R1.eq_1,q88R2.eq_1,c_token_Keep_2.eq_1,run_token_arbiter_on,q91R0.eq_1,q91R1.eq_1,q91R2.eq_1,c_token_arbiter_on.eq_1,he1,hgone,ints_nil,List.length_nil])
        | cons y q' =>
          simp only [ints_cons, List.length_cons, List.cons_append] at t1 hfl
          simp only [List.length_cons] at t2
          have p1 : (0 : Int) < ((q'.length + 1 : Nat) : Int) := by omega
          have p2 : 1 ≤ q'.length + 1 := by omega
          have p4 : 1 + q'.length ≤ q'.length + (q.length - (q'.length + 1)) + 1 := by omega
          have p5 : q'.length + 1 ≤ q.length := hfl
          have p6 : List.take q'.length (ints q' ++ ints (List.replicate (q.length - (q'.length + 1)) 0)) = ints q' := List.take_left' (ints_len q')
          (sym => simp [Qb,Qc,Qd,Qe,Qf,Qg,Qi,Qj,Qm,Qn,Qo,Qp,Qq,Qr,Qt,Qu,Qv,Qw,Qx,Qy,Q1,Q4,Q5,Q6,Q9,Xa,Xd,Xj,Xl,Xm,Xn,Xp,Xs,Xy,X9,Yc,Yg,Yj,Yk,Yn,Yo,Yr,Yt,Yu,Yv,Yx,Y1,Y4,Y5,Y6,Y7,Y8,Y9,Za,Zb,Zc,Zd,Ze,Zg,Zh,Zi,Zj,Zk,Zl,Zm,Zn,Zo,Zp,Zq,Zr,Zs,Zt,Zu,Zv,Zw,Zx,Zy,Zz,Z0,Z1,Z3,Ja,Jj,Jk,Jl,Jr,Jv,Jw,Jx,J1,J2,J3,J7,J9,K0,K1,K2,K8,K9,Ue,Uf,Ug,Uj,Ul,Uq,Ur,Us,U6,Vk,Vm,Vo,Vp,Vq,Vr,Vs,Vt,Vu,Vv,Vw,Vx,V3,V6,V9,Wd,We,Wf,Wg,Wh,Wi,Wj,Wp,Wq,Wz,W5,W6,W7,Hh,Hi,Hk,Hl,Ho,Hp,Hq,Hr,Hs,Ht,Hu,Hv,Hw,Hx,Hy,Hz,H5,H6,H8,Na,Ne,Nf,Ng,Nl,Nm,No,Np,Nq,Nt,Nw,Nx,Nz,N0,Be,Bh,Bi,q86R0.eq_1,q86R1.eq_1,q86R2.eq_1,q86R3.eq_1,q86R4.eq_1,c_token_Keep.eq_1,run_token_change,q92R0.eq_1,q92R1.eq_1,q92R2.eq_1,q92R3.eq_1,c_token_change.eq_1,run_token_Keep_2,q88R0.eq_1,q88R1.eq_1,q88R2.eq_1,c_token_Keep_2.eq_1,run_token_arbiter_on,q91R0.eq_1,q91R1.eq_1,q91R2.eq_1,c_token_arbiter_on.eq_1,he1,hgone,ints_cons,ints_append,ints_len,lr,p1,p2,p4,p5,p6,Nat.add_sub_cancel])
      · rw [if_neg he]
        by_cases he1 : h = 0
        · (sym => simp [Qb,Qc,Qd,Qe,Qf,Qg,Qi,Qj,Qm,Qn,Qo,Qp,Qq,Qr,Qt,Qu,Qv,Qw,Qx,Qy,Q1,Q4,Q5,Q6,Q9,Xa,Xd,Xj,Xl,Xm,Xn,Xp,Xs,Xy,X9,Yc,Yg,Yj,Yk,Yn,Yo,Yr,Yt,Yu,Yv,Yx,Y1,Y4,Y5,Y6,Y7,Y8,Y9,Za,Zb,Zc,Zd,Ze,Zg,Zh,Zi,Zj,Zk,Zl,Zm,Zn,Zo,Zp,Zq,Zr,Zs,Zt,Zu,Zv,Zw,Zx,Zy,Zz,Z0,Z1,Z3,Ja,Jj,Jk,Jl,Jr,Jv,Jw,Jx,J1,J2,J3,J7,J9,K0,K1,K2,K8,K9,Ue,Uf,Ug,Uj,Ul,Uq,Ur,Us,U6,Vk,Vm,Vo,Vp,Vq,Vr,Vs,Vt,Vu,Vv,Vw,Vx,V3,V6,V9,Wd,We,Wf,Wg,Wh,Wi,Wj,Wp,Wq,Wz,W5,W6,W7,Hh,Hi,Hk,Hl,Ho,Hp,Hq,Hr,Hs,Ht,Hu,Hv,Hw,Hx,Hy,Hz,H5,H6,H8,Na,Ne,Nf,Ng,Nl,Nm,No,Np,Nq,Nt,Nw,Nx,Nz,N0,Be,Bh,Bi,q86R0.eq_1,q86R1.eq_1,q86R2.eq_1,q86R3.eq_1,q86R4.eq_1,c_token_Keep.eq_1,run_token_change,q92R0.eq_1,q92R1.eq_1,q92R2.eq_1,q92R3.eq_1,c_token_change.eq_1,run_token_Keep_2,q88R0.eq_1,q88R1.eq_1,q88R2.eq_1,c_token_Keep_2.eq_1,he1,hfl,t1,t2,ints_append,ints_len,lr])
        · have he2 : h ∈ ids := by
            by_cases hh : h ∈ ids
            · exact hh
            · exact absurd ⟨he1, hh⟩ he
          have hgone : ∀ (r0 : ARow) (fl : Bool) (rows : List ARow), aR G FT n_token_Keep_1 [.int .i64 h, .ptr 1 0 0 0] (r0 :: ⟨1, 0, fl, [[.data b2 1 (ints ids) f2]]⟩ :: rows) = some (.bool false, r0 :: ⟨1, 0, fl, [[.data b2 1 (ints ids) f2]]⟩ :: rows) := fun r0 fl rows => by
            rw [go fl _ rfl]; simp [he2]
          (sym => simp [Qb,Qc,Qd,Qe,Qf,Qg,Qi,Qj,Qm,Qn,Qo,Qp,Qq,Qr,Qt,Qu,Qv,Qw,Qx,Qy,Q1,Q4,Q5,Q6,Q9,Xa,Xd,Xj,Xl,Xm,Xn,Xp,Xs,Xy,X9,Yc,Yg,Yj,Yk,Yn,Yo,Yr,Yt,Yu,Yv,Yx,Y1,Y4,Y5,Y6,Y7,Y8,Y9,Za,Zb,Zc,Zd,Ze,Zg,Zh,Zi,Zj,Zk,Zl,Zm,Zn,Zo,Zp,Zq,Zr,Zs,Zt,Zu,Zv,Zw,Zx,Zy,Zz,Z0,Z1,Z3,Ja,Jj,Jk,Jl,Jr,Jv,Jw,Jx,J1,J2,J3,J7,J9,K0,K1,K2,K8,K9,Ue,Uf,Ug,Uj,Ul,Uq,Ur,Us,U6,Vk,Vm,Vo,Vp,Vq,Vr,Vs,Vt,Vu,Vv,Vw,Vx,V3,V6,V9,Wd,We,Wf,Wg,Wh,Wi,Wj,Wp,Wq,Wz,W5,W6,W7,Hh,Hi,Hk,Hl,Ho,Hp,Hq,Hr,Hs,Ht,Hu,Hv,Hw,Hx,Hy,Hz,H5,H6,H8,Na,Ne,Nf,Ng,Nl,Nm,No,Np,Nq,Nt,Nw,Nx,Nz,N0,Be,Bh,Bi,q86R0.eq_1,q86R1.eq_1,q86R2.eq_1,q86R3.eq_1,q86R4.eq_1,c_token_Keep.eq_1,run_token_change,q92R0.eq_1,q92R1.eq_1,q92R2.eq_1,q92R3.eq_1,c_token_change.eq_1,run_token_Keep_2,q88R0.eq_1,q88R1.eq_1,q88R2.eq_1,c_token_Keep_2.eq_1,he1,hgone,hfl,t1,t2,ints_append,ints_len,lr])))
  · have hm' : mayT h q = false := by simpa using hm
    rw [if_neg hm]
    (sym => simp [Qb,Qc,Qd,Qe,Qf,Qg,Qi,Qj,Qm,Qn,Qo,Qp,Qq,Qr,Qt,Qu,Qv,Qw,Qx,Qy,Q1,Q4,Q5,Q6,Q9,Xa,Xd,Xj,Xl,Xm,Xn,Xp,Xs,Xy,X9,Yc,Yg,Yj,Yk,Yn,Yo,Yr,Yt,Yu,Yv,Yx,Y1,Y4,Y5,Y6,Y7,Y8,Y9,Za,Zb,Zc,Zd,Ze,Zg,Zh,Zi,Zj,Zk,Zl,Zm,Zn,Zo,Zp,Zq,Zr,Zs,Zt,Zu,Zv,Zw,Zx,Zy,Zz,Z0,Z1,Z3,Ja,Jj,Jk,Jl,Jr,Jv,Jw,Jx,J1,J2,J3,J7,J9,K0,K1,K2,K8,K9,Ue,Uf,Ug,Uj,Ul,Uq,Ur,Us,U6,Vk,Vm,Vo,Vp,Vq,Vr,Vs,Vt,Vu,Vv,Vw,Vx,V3,V6,V9,Wd,We,Wf,Wg,Wh,Wi,Wj,Wp,Wq,Wz,W5,W6,W7,Hh,Hi,Hk,Hl,Ho,Hp,Hq,Hr,Hs,Ht,Hu,Hv,Hw,Hx,Hy,Hz,H5,H6,H8,Na,Ne,Nf,Ng,Nl,Nm,No,Np,Nq,Nt,Nw,Nx,Nz,N0,Be,Bh,Bi,q86R0.eq_1,q86R1.eq_1,q86R2.eq_1,q86R3.eq_1,q86R4.eq_1,c_token_Keep.eq_1,hM,hm',ints_nil])
end Go.Proofs.Ythcnhibjddomdaa
