/- What slices.Delete and token.Free come to. Conditions: none. -/
import Derived.Test.YthcnhibjddomdaaTok2
set_option linter.unusedVariables false
set_option linter.unusedSimpArgs false
set_option linter.unusedSectionVars false
set_option maxRecDepth 20000
set_option maxHeartbeats 1000000
namespace Go.Proofs.Ythcnhibjddomdaa
open Go
variable (G : Nat → Option (List AV))
theorem delete_run (h : List ARow) (id g : Nat) (q : List Int) (k : Nat) (hk : k < q.length) (hl : q.length ≤ 1000000) (hr : h[id]? = some ⟨1, g, true, ints q⟩) :
    aR G FT n_slices_Delete_int [.own id g 0 q.length q.length, .int .i64 k, .int .i64 ((k + 1 : Nat) : Int)] h = some (.own id g 0 (q.length - 1) q.length, h.set id ⟨1, g, true, ints (q.eraseIdx k) ++ [[.int .i64 0]]⟩) := by
  have hid : id < h.length := (List.getElem?_eq_some_iff.1 hr).1
  have hs : ∀ r, (h.set id r)[id]? = some r := fun r => List.getElem?_set_self hid
  rw [run_slices_Delete_int]
  have hne : ¬ (k : Int) = ((k + 1 : Nat) : Int) := by omega
  have e1 : List.take (q.length - (k + 1)) (List.drop (k + 1) (ints q)) = ints (q.drop (k + 1)) := by
    rw [ints_drop]; exact List.take_of_length_le (by rw [ints_len]; simp)
  have e2 : k + (q.length - (k + 1)) = q.length - 1 := by omega
  have e3 : q.length - (q.length - 1) = 1 := by omega
  have e7 : k + 1 + (q.length - (k + 1)) = q.length := by omega
  have f1 : k ≤ k + 1 := by omega
  have f2 : k + 1 ≤ q.length := by omega
  have f3 : q.length - 1 ≤ q.length := by omega
  have f4 : k ≤ q.length := by omega
  have f5 : (q.drop (k + 1)).length = q.length - (k + 1) := List.length_drop
  have f6 : q.length - 1 + 1 = q.length := by omega
  have e4 : List.take (q.length - 1) (List.take k (ints q) ++ ints (q.drop (k + 1)) ++ List.drop (q.length - 1) (ints q)) = ints (q.eraseIdx k) := by
    rw [List.eraseIdx_eq_take_drop_succ, ints_append, ints_take]
    apply List.take_left'
    simp [ints_len]; omega
  have e5 : List.drop q.length (List.take k (ints q) ++ ints (q.drop (k + 1)) ++ List.drop (q.length - 1) (ints q)) = [] := by
    apply List.drop_eq_nil_of_le
    simp [ints_len]; omega
  have e6 : (List.take k (ints q)).length + (q.length - (k + 1)) + (List.drop (q.length - 1) (ints q)).length = q.length := by
    simp [ints_len]; omega
  (sym => simp [Qb,Qc,Qd,Qe,Qi,Qj,Qr,Qt,Xa,Xl,Xm,Xn,Xy,X0,X8,Yg,Y1,Y2,Y5,Y7,Y9,Za,Zb,Zc,Zd,Ze,Zg,Zh,Zi,Zj,Zk,Zl,Zm,Zn,Zr,Zs,Zt,Zu,Zv,Zw,Zx,Zy,Zz,Z0,Z3,Jj,Jk,Jr,Jv,Jx,Kv,K0,K1,K2,Ue,Uf,Ug,W8,Hw,Hx,H2,H3,H8,Na,Nf,Ng,Ni,Nk,Nm,No,Nz,N0,Bb,Be,Bf,q70R0.eq_1,q70R1.eq_1,q70R2.eq_1,q70R3.eq_1,q70R4.eq_1,q70R5.eq_1,q70R6.eq_1,q70R7.eq_1,c_slices_Delete_int.eq_1,hr,hs,hne,e1,e2,e3,e4,e5,e6,e7,f1,f2,f3,f4,f5,f6,hk,ints_len,List.set_set])
def freeT (h : Int) (q : List Int) (id : Int) : Int × List Int × Int :=
  if mayT h q = true ∧ numB id = true then
    if h = id then (match q with | [] => (0, [], 0) | x :: q => (x, q, 0))
    else if 0 ≤ idxFrom id q 0 then (h, q.eraseIdx (idxFrom id q 0).toNat, 0) else (h, q, 0)
  else (0, [], 2)
theorem free_P (h : Int) (q : List Int) (b f : Bool) (id : Int) (hl : q.length ≤ 1000) :
    aP G FT n_token_Free [.agg [.int .i64 h, .data b 1 (ints q) f], .int .i64 id] = some (.tup [tokV (freeT h q id).1 (freeT h q id).2.1, .int .i64 (freeT h q id).2.2]) := by
  have hp := fun b f => place_P G h q b f id hl
  have hM := fun b f => may_P G h q b f hl
  have hN := number_P G id
  have hC := fun b f => clone_int_run G b f q (by omega)
  unfold aP freeT tokV
  rw [run_token_Free]
  have e1 : List.take q.length (ints q) = ints q := List.take_of_length_le (by rw [ints_len]; exact Nat.le_refl _)
  by_cases hm : mayT h q = true
  · by_cases hn : numB id = true
    · rw [if_pos ⟨hm, hn⟩]
      by_cases he : h = id
      · subst he
        have hq0 : placeT h q h = 0 := by simp [placeT, hm, hn]
        rw [if_pos rfl]
        rw [hq0] at hp
        cases q with
        | nil =>
          simp only [ints_nil, List.length_nil] at hp hM hC
          (sym => simp [Qb,Qc,Qd,Qe,Qf,Qg,Qi,Qj,Qm,Qn,Qo,Qp,Qq,Qr,Qt,Qu,Qv,Qw,Qx,Qy,Q1,Q4,Q5,Q6,Q9,Xa,Xd,Xj,Xl,Xm,Xn,Xp,Xs,Xy,X6,X8,Yc,Yg,Yj,Yk,Yo,Yr,Yt,Yu,Yv,Yx,Y1,Y4,Y5,Y6,Y7,Y8,Y9,Za,Zb,Zc,Zd,Ze,Zg,Zh,Zi,Zj,Zk,Zl,Zm,Zn,Zo,Zp,Zq,Zr,Zs,Zt,Zu,Zv,Zw,Zx,Zy,Zz,Z0,Z1,Z3,Jb,Jj,Jk,Jl,Jn,Jo,Jr,Jv,Jw,Jx,J1,J2,J3,J7,K0,K1,K2,K8,K9,Ue,Uf,Ug,Ul,Uq,Us,U6,Vk,Vm,Vo,Vp,Vq,Vr,Vs,Vt,Vu,Vv,Vw,Vx,V3,V6,V9,Wd,We,Wf,Wg,Wh,Wi,Wj,Wp,Wq,Ww,Wz,W3,W4,W5,W6,W7,Hh,Hi,Hk,Hl,Ho,Hp,Hq,Hr,Hs,Ht,Hu,Hv,Hw,Hx,Hy,Hz,H5,H6,H8,Nf,Ng,Ni,Nl,Nm,No,Np,Nq,Ns,Nt,Nw,Nx,Nz,N0,N1,N2,Be,Bh,Bi,q84R0.eq_1,q84R1.eq_1,q84R2.eq_1,q84R3.eq_1,q84R4.eq_1,c_token_Free.eq_1,run_token_change,q92R0.eq_1,q92R1.eq_1,q92R2.eq_1,q92R3.eq_1,c_token_change.eq_1,run_token_Free_1,q85R0.eq_1,q85R1.eq_1,q85R2.eq_1,q85R3.eq_1,c_token_Free_1.eq_1,run_token_arbiter_on,q91R0.eq_1,q91R1.eq_1,q91R2.eq_1,c_token_arbiter_on.eq_1,hM,hN,hp,hC,hm,hn,ints_nil])
        | cons x q =>
          have p1 : (0 : Int) < ((q.length + 1 : Nat) : Int) := by omega
          have p2 : 1 ≤ q.length + 1 := by omega
          have p4 : 1 + q.length ≤ q.length + 1 := by omega
          have p3 : List.take q.length (ints q) = ints q := List.take_of_length_le (by rw [ints_len]; exact Nat.le_refl _)
          simp only [List.length_cons, ints_cons] at hC hp hM
          (sym => simp [Qb,Qc,Qd,Qe,Qf,Qg,Qi,Qj,Qm,Qn,Qo,Qp,Qq,Qr,Qt,Qu,Qv,Qw,Qx,Qy,Q1,Q4,Q5,Q6,Q9,Xa,Xd,Xj,Xl,Xm,Xn,Xp,Xs,Xy,X6,X8,Yc,Yg,Yj,Yk,Yo,Yr,Yt,Yu,Yv,Yx,Y1,Y4,Y5,Y6,Y7,Y8,Y9,Za,Zb,Zc,Zd,Ze,Zg,Zh,Zi,Zj,Zk,Zl,Zm,Zn,Zo,Zp,Zq,Zr,Zs,Zt,Zu,Zv,Zw,Zx,Zy,Zz,Z0,Z1,Z3,Jb,Jj,Jk,Jl,Jn,Jo,Jr,Jv,Jw,Jx,J1,J2,J3,J7,K0,K1,K2,K8,K9,Ue,Uf,Ug,Ul,Uq,Us,U6,Vk,Vm,Vo,Vp,Vq,Vr,Vs,Vt,Vu,Vv,Vw,Vx,V3,V6,V9,Wd,We,Wf,Wg,Wh,Wi,Wj,Wp,Wq,Ww,Wz,W3,W4,W5,W6,W7,Hh,Hi,Hk,Hl,Ho,Hp,Hq,Hr,Hs,Ht,Hu,Hv,Hw,Hx,Hy,Hz,H5,H6,H8,Nf,Ng,Ni,Nl,Nm,No,Np,Nq,Ns,Nt,Nw,Nx,Nz,N0,N1,N2,Be,Bh,Bi,q84R0.eq_1,q84R1.eq_1,q84R2.eq_1,q84R3.eq_1,q84R4.eq_1,c_token_Free.eq_1,run_token_change,q92R0.eq_1,q92R1.eq_1,q92R2.eq_1,q92R3.eq_1,c_token_change.eq_1,run_token_Free_1,q85R0.eq_1,q85R1.eq_1,q85R2.eq_1,q85R3.eq_1,c_token_Free_1.eq_1,run_token_arbiter_on,q91R0.eq_1,q91R1.eq_1,q91R2.eq_1,c_token_arbiter_on.eq_1,hM,hN,hp,hC,hm,hn,ints_cons,ints_len,p1,p2,p3,p4,Nat.add_sub_cancel])
      · rw [if_neg he]
        by_cases hx : 0 ≤ idxFrom id q 0
        · obtain ⟨k, hk⟩ : ∃ k : Nat, idxFrom id q 0 = k := ⟨(idxFrom id q 0).toNat, by omega⟩
          have hkl : k < q.length := by
            rcases idxFrom_range id q 0 with h | h <;> omega
          have hpl : placeT h q id = ((k + 1 : Nat) : Int) := by
            simp only [placeT, hm, hn, and_self, if_true, he, if_false, hx, hk]; rfl
          rw [hpl] at hp
          rw [if_pos hx, hk]
          have n1 : ¬ ((k + 1 : Nat) : Int) = 0 := by omega
          have n2 : 0 < ((k + 1 : Nat) : Int) := by omega
          have hw : IntKind.i64.wrap (((k + 1 : Nat) : Int) - 1) = (k : Int) := by rw [wrap_in _ (by omega) (by omega)]; omega
          have t1 : List.take (q.length - 1) (ints (q.eraseIdx k) ++ [[.int .i64 0]]) = ints (q.eraseIdx k) := List.take_left' (by rw [ints_len, List.length_eraseIdx_of_lt hkl])
          have t2 : (ints (q.eraseIdx k) ++ [[AV.int .i64 0]]).length = q.length := by
            rw [List.length_append, ints_len, List.length_eraseIdx_of_lt hkl]; simp; omega
          have t3 : q.length - 1 ≤ q.length := by omega
          have t4 : (ints (q.eraseIdx k)).length + 1 = q.length := by rw [ints_len, List.length_eraseIdx_of_lt hkl]; omega
          (sym => simp [Qb,Qc,Qd,Qe,Qf,Qg,Qi,Qj,Qm,Qn,Qo,Qp,Qq,Qr,Qt,Qu,Qv,Qw,Qx,Qy,Q1,Q4,Q5,Q6,Q9,Xa,Xd,Xj,Xl,Xm,Xn,Xp,Xs,Xy,X6,X8,Yc,Yg,Yj,Yk,Yo,Yr,Yt,Yu,Yv,Yx,Y1,Y4,Y5,Y6,Y7,Y8,Y9,Za,Zb,Zc,Zd,Ze,Zg,Zh,Zi,Zj,Zk,Zl,Zm,Zn,Zo,Zp,Zq,Zr,Zs,Zt,Zu,Zv,Zw,Zx,Zy,Zz,Z0,Z1,Z3,Jb,Jj,Jk,Jl,Jn,Jo,Jr,Jv,Jw,Jx,J1,J2,J3,J7,K0,K1,K2,K8,K9,Ue,Uf,Ug,Ul,Uq,Us,U6,Vk,Vm,Vo,Vp,Vq,Vr,Vs,Vt,Vu,Vv,Vw,Vx,V3,V6,V9,Wd,We,Wf,Wg,Wh,Wi,Wj,Wp,Wq,Ww,Wz,W3,W4,W5,W6,W7,Hh,Hi,Hk,Hl,Ho,Hp,Hq,Hr,Hs,Ht,Hu,Hv,Hw,Hx,Hy,Hz,H5,H6,H8,Nf,Ng,Ni,Nl,Nm,No,Np,Nq,Ns,Nt,Nw,Nx,Nz,N0,N1,N2,Be,Bh,Bi,q84R0.eq_1,q84R1.eq_1,q84R2.eq_1,q84R3.eq_1,q84R4.eq_1,c_token_Free.eq_1,run_token_change,q92R0.eq_1,q92R1.eq_1,q92R2.eq_1,q92R3.eq_1,c_token_change.eq_1,run_token_Free_1,q85R0.eq_1,q85R1.eq_1,q85R2.eq_1,q85R3.eq_1,c_token_Free_1.eq_1,hM,hN,hp,hC,hm,hn,n1,n2,hw]; tactic => (
            rw [delete_run G _ _ _ q k hkl (by omega) rfl]
            (sym => simp [Qb,Qc,Qd,Qe,Qf,Qg,Qi,Qj,Qm,Qn,Qo,Qp,Qq,Qr,Qt,Qu,Qv,Qw,Qx,Qy,Q1,Q4,Q5,Q6,Q9,Xa,Xd,Xj,Xl,Xm,Xn,Xp,Xs,Xy,X6,X8,Yc,Yg,Yj,Yk,Yo,Yr,Yt,Yu,Yv,Yx,Y1,Y4,Y5,Y6,Y7,Y8,Y9,Za,Zb,Zc,Zd,Ze,Zg,Zh,Zi,Zj,Zk,Zl,Zm,Zn,Zo,Zp,Zq,Zr,Zs,Zt,Zu,Zv,Zw,Zx,Zy,Zz,Z0,Z1,Z3,Jb,Jj,Jk,Jl,Jn,Jo,Jr,Jv,Jw,Jx,J1,J2,J3,J7,K0,K1,K2,K8,K9,Ue,Uf,Ug,Ul,Uq,Us,U6,Vk,Vm,Vo,Vp,Vq,Vr,Vs,Vt,Vu,Vv,Vw,Vx,V3,V6,V9,Wd,We,Wf,Wg,Wh,Wi,Wj,Wp,Wq,Ww,Wz,W3,W4,W5,W6,W7,Hh,Hi,Hk,Hl,Ho,Hp,Hq,Hr,Hs,Ht,Hu,Hv,Hw,Hx,Hy,Hz,H5,H6,H8,Nf,Ng,Ni,Nl,Nm,No,Np,Nq,Ns,Nt,Nw,Nx,Nz,N0,N1,N2,Be,Bh,Bi,q84R0.eq_1,q84R1.eq_1,q84R2.eq_1,q84R3.eq_1,q84R4.eq_1,c_token_Free.eq_1,run_token_change,q92R0.eq_1,q92R1.eq_1,q92R2.eq_1,q92R3.eq_1,c_token_change.eq_1,run_token_Free_1,q85R0.eq_1,q85R1.eq_1,q85R2.eq_1,q85R3.eq_1,c_token_Free_1.eq_1,t1,t2,t3,t4])))
        · have hq0 : placeT h q id = -1 := by simp only [placeT, hm, hn, and_self, if_true, he, if_false, hx]
          rw [hq0] at hp
          (sym => simp [Qb,Qc,Qd,Qe,Qf,Qg,Qi,Qj,Qm,Qn,Qo,Qp,Qq,Qr,Qt,Qu,Qv,Qw,Qx,Qy,Q1,Q4,Q5,Q6,Q9,Xa,Xd,Xj,Xl,Xm,Xn,Xp,Xs,Xy,X6,X8,Yc,Yg,Yj,Yk,Yo,Yr,Yt,Yu,Yv,Yx,Y1,Y4,Y5,Y6,Y7,Y8,Y9,Za,Zb,Zc,Zd,Ze,Zg,Zh,Zi,Zj,Zk,Zl,Zm,Zn,Zo,Zp,Zq,Zr,Zs,Zt,Zu,Zv,Zw,Zx,Zy,Zz,Z0,Z1,Z3,Jb,Jj,Jk,Jl,Jn,Jo,Jr,Jv,Jw,Jx,J1,J2,J3,J7,K0,K1,K2,K8,K9,Ue,Uf,Ug,Ul,Uq,Us,U6,Vk,Vm,Vo,Vp,Vq,Vr,Vs,Vt,Vu,Vv,Vw,Vx,V3,V6,V9,Wd,We,Wf,Wg,Wh,Wi,Wj,Wp,Wq,Ww,Wz,W3,W4,W5,W6,W7,Hh,Hi,Hk,Hl,Ho,Hp,Hq,Hr,Hs,Ht,Hu,Hv,Hw,Hx,Hy,Hz,H5,H6,H8,Nf,Ng,Ni,Nl,Nm,No,Np,Nq,Ns,Nt,Nw,Nx,Nz,N0,N1,N2,Be,Bh,Bi,q84R0.eq_1,q84R1.eq_1,q84R2.eq_1,q84R3.eq_1,q84R4.eq_1,c_token_Free.eq_1,run_token_change,q92R0.eq_1,q92R1.eq_1,q92R2.eq_1,q92R3.eq_1,c_token_change.eq_1,run_token_Free_1,q85R0.eq_1,q85R1.eq_1,q85R2.eq_1,q85R3.eq_1,c_token_Free_1.eq_1,hM,hN,hp,hC,hm,hn,hx,e1,ints_len])
    · have hn' : numB id = false := by simpa using hn
      (sym => simp [Qb,Qc,Qd,Qe,Qf,Qg,Qi,Qj,Qm,Qn,Qo,Qp,Qq,Qr,Qt,Qu,Qv,Qw,Qx,Qy,Q1,Q4,Q5,Q6,Q9,Xa,Xd,Xj,Xl,Xm,Xn,Xp,Xs,Xy,X6,X8,Yc,Yg,Yj,Yk,Yo,Yr,Yt,Yu,Yv,Yx,Y1,Y4,Y5,Y6,Y7,Y8,Y9,Za,Zb,Zc,Zd,Ze,Zg,Zh,Zi,Zj,Zk,Zl,Zm,Zn,Zo,Zp,Zq,Zr,Zs,Zt,Zu,Zv,Zw,Zx,Zy,Zz,Z0,Z1,Z3,Jb,Jj,Jk,Jl,Jn,Jo,Jr,Jv,Jw,Jx,J1,J2,J3,J7,K0,K1,K2,K8,K9,Ue,Uf,Ug,Ul,Uq,Us,U6,Vk,Vm,Vo,Vp,Vq,Vr,Vs,Vt,Vu,Vv,Vw,Vx,V3,V6,V9,Wd,We,Wf,Wg,Wh,Wi,Wj,Wp,Wq,Ww,Wz,W3,W4,W5,W6,W7,Hh,Hi,Hk,Hl,Ho,Hp,Hq,Hr,Hs,Ht,Hu,Hv,Hw,Hx,Hy,Hz,H5,H6,H8,Nf,Ng,Ni,Nl,Nm,No,Np,Nq,Ns,Nt,Nw,Nx,Nz,N0,N1,N2,Be,Bh,Bi,q84R0.eq_1,q84R1.eq_1,q84R2.eq_1,q84R3.eq_1,q84R4.eq_1,c_token_Free.eq_1,hM,hN,hm,hn',ints_nil])
  · have hm' : mayT h q = false := by simpa using hm
    (sym => simp [Qb,Qc,Qd,Qe,Qf,Qg,Qi,Qj,Qm,Qn,Qo,Qp,Qq,Qr,Qt,Qu,Qv,Qw,Qx,Qy,Q1,Q4,Q5,Q6,Q9,Xa,Xd,Xj,Xl,Xm,Xn,Xp,Xs,Xy,X6,X8,Yc,Yg,Yj,Yk,Yo,Yr,Yt,Yu,Yv,Yx,Y1,Y4,Y5,Y6,Y7,Y8,Y9,Za,Zb,Zc,Zd,Ze,Zg,Zh,Zi,Zj,Zk,Zl,Zm,Zn,Zo,Zp,Zq,Zr,Zs,Zt,Zu,Zv,Zw,Zx,Zy,Zz,Z0,Z1,Z3,Jb,Jj,Jk,Jl,Jn,Jo,Jr,Jv,Jw,Jx,J1,J2,J3,J7,K0,K1,K2,K8,K9,Ue,Uf,Ug,Ul,Uq,Us,U6,Vk,Vm,Vo,Vp,Vq,Vr,Vs,Vt,Vu,Vv,Vw,Vx,V3,V6,V9,Wd,We,Wf,Wg,Wh,Wi,Wj,Wp,Wq,Ww,Wz,W3,W4,W5,W6,W7,Hh,Hi,Hk,Hl,Ho,Hp,Hq,Hr,Hs,Ht,Hu,Hv,Hw,Hx,Hy,Hz,H5,H6,H8,Nf,Ng,Ni,Nl,Nm,No,Np,Nq,Ns,Nt,Nw,Nx,Nz,N0,N1,N2,Be,Bh,Bi,q84R0.eq_1,q84R1.eq_1,q84R2.eq_1,q84R3.eq_1,q84R4.eq_1,c_token_Free.eq_1,hM,hN,hm',ints_nil])
end Go.Proofs.Ythcnhibjddomdaa
