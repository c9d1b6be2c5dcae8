/- What token.Place, token.Ask and token.Free come to. Conditions: none. -/
import Derived.Test.YthcnhibjddomdaaTok1
set_option linter.unusedVariables false
set_option linter.unusedSimpArgs false
set_option linter.unusedSectionVars false
set_option maxRecDepth 20000
set_option maxHeartbeats 1000000
namespace Go.Proofs.Ythcnhibjddomdaa
open Go
variable (G : Nat → Option (List AV))
theorem aR_ext {F : Nat → Option AEnt} {f : Nat} {E : List AV → List ARow → Option (AV × List ARow)} (hf : F f = some (.ext E)) (args : List AV) (h : List ARow) : aR G F f args h = E args h := by
  unfold aR arunFn
  rw [hf]; rfl
theorem clone_int_run (b f : Bool) (l : List Int) (hl : l.length ≤ 1000000) : aR G FT n_slices_Clone_int [.data b 1 (ints l) f] [] = some (.own 0 1 0 l.length l.length, [⟨1, 1, true, ints l⟩]) := by
  rw [aR_ext G (F := FT) (f := n_slices_Clone_int) (E := extClone 1) rfl]
  simp [extClone, ints_len, hl]
def placeT (h : Int) (q : List Int) (id : Int) : Int :=
  if mayT h q = true ∧ numB id = true then if h = id then 0 else if 0 ≤ idxFrom id q 0 then idxFrom id q 0 + 1 else -1 else -1
theorem idxFrom_range (x : Int) : ∀ (l : List Int) (i : Nat), idxFrom x l i = -1 ∨ ((i : Int) ≤ idxFrom x l i ∧ idxFrom x l i < i + l.length)
  | [], _ => .inl rfl
  | y :: l, i => by
    unfold idxFrom
    split
    · right; simp; omega
    · rcases idxFrom_range x l (i + 1) with h | h
      · exact .inl h
      · right; simp at h ⊢; omega
theorem place_P (h : Int) (q : List Int) (b f : Bool) (id : Int) (hl : q.length ≤ 1000) : aP G FT n_token_Place [.agg [.int .i64 h, .data b 1 (ints q) f], .int .i64 id] = some (.int .i64 (placeT h q id)) := by
  unfold aP placeT
  rw [run_token_Place]
  have hr := idxFrom_range id q 0
  have hi := fun b f => index_P G q b f id (by omega)
  have hM := fun b f => may_P G h q b f hl
  have hN := number_P G id
  by_cases hm : mayT h q = true
  · by_cases hn : numB id = true
    · rw [if_pos ⟨hm, hn⟩]
      by_cases he : h = id
      · subst he
        rw [if_pos rfl]
        (sym => simp [Qb,Qc,Qd,Qe,Qf,Qg,Qi,Qj,Qm,Qn,Qo,Qr,Qt,Qu,Qw,Q4,Xa,Xd,Xp,X5,X8,Yd,Yj,Yr,Yt,Yu,Yv,Y1,Y5,Y7,Y9,Za,Zb,Zc,Ze,Zg,Zh,Zi,Zj,Zk,Zl,Zm,Zn,Zo,Zr,Zs,Zt,Zu,Zv,Zw,Zy,Z0,Z3,Jb,Jj,Jk,Jl,Jn,Jo,Jp,Jr,Jv,Jx,Ue,Uf,Ug,Ul,V3,V6,V9,Wd,We,Wj,Hh,Hi,Ho,Hq,Hs,Hv,Nl,Nm,No,Np,Nw,Nx,N1,N2,Be,q90R0.eq_1,q90R1.eq_1,q90R2.eq_1,q90R3.eq_1,q90R4.eq_1,q90R5.eq_1,q90R6.eq_1,q90R7.eq_1,q90R8.eq_1,c_token_Place.eq_1,hM,hN,hm,hn])
      · rw [if_neg he]
        by_cases hx : 0 ≤ idxFrom id q 0
        · have hw : IntKind.i64.wrap (idxFrom id q 0 + 1) = idxFrom id q 0 + 1 := wrap_in _ (by omega) (by omega)
          (sym => simp [Qb,Qc,Qd,Qe,Qf,Qg,Qi,Qj,Qm,Qn,Qo,Qr,Qt,Qu,Qw,Q4,Xa,Xd,Xp,X5,X8,Yd,Yj,Yr,Yt,Yu,Yv,Y1,Y5,Y7,Y9,Za,Zb,Zc,Ze,Zg,Zh,Zi,Zj,Zk,Zl,Zm,Zn,Zo,Zr,Zs,Zt,Zu,Zv,Zw,Zy,Z0,Z3,Jb,Jj,Jk,Jl,Jn,Jo,Jp,Jr,Jv,Jx,Ue,Uf,Ug,Ul,V3,V6,V9,Wd,We,Wj,Hh,Hi,Ho,Hq,Hs,Hv,Nl,Nm,No,Np,Nw,Nx,N1,N2,Be,q90R0.eq_1,q90R1.eq_1,q90R2.eq_1,q90R3.eq_1,q90R4.eq_1,q90R5.eq_1,q90R6.eq_1,q90R7.eq_1,q90R8.eq_1,c_token_Place.eq_1,hM,hN,hi,hm,hn,he,hx,hw])
        · (sym => simp [Qb,Qc,Qd,Qe,Qf,Qg,Qi,Qj,Qm,Qn,Qo,Qr,Qt,Qu,Qw,Q4,Xa,Xd,Xp,X5,X8,Yd,Yj,Yr,Yt,Yu,Yv,Y1,Y5,Y7,Y9,Za,Zb,Zc,Ze,Zg,Zh,Zi,Zj,Zk,Zl,Zm,Zn,Zo,Zr,Zs,Zt,Zu,Zv,Zw,Zy,Z0,Z3,Jb,Jj,Jk,Jl,Jn,Jo,Jp,Jr,Jv,Jx,Ue,Uf,Ug,Ul,V3,V6,V9,Wd,We,Wj,Hh,Hi,Ho,Hq,Hs,Hv,Nl,Nm,No,Np,Nw,Nx,N1,N2,Be,q90R0.eq_1,q90R1.eq_1,q90R2.eq_1,q90R3.eq_1,q90R4.eq_1,q90R5.eq_1,q90R6.eq_1,q90R7.eq_1,q90R8.eq_1,c_token_Place.eq_1,hM,hN,hi,hm,hn,he,hx])
    · have hn' : numB id = false := by simpa using hn
      (sym => simp [Qb,Qc,Qd,Qe,Qf,Qg,Qi,Qj,Qm,Qn,Qo,Qr,Qt,Qu,Qw,Q4,Xa,Xd,Xp,X5,X8,Yd,Yj,Yr,Yt,Yu,Yv,Y1,Y5,Y7,Y9,Za,Zb,Zc,Ze,Zg,Zh,Zi,Zj,Zk,Zl,Zm,Zn,Zo,Zr,Zs,Zt,Zu,Zv,Zw,Zy,Z0,Z3,Jb,Jj,Jk,Jl,Jn,Jo,Jp,Jr,Jv,Jx,Ue,Uf,Ug,Ul,V3,V6,V9,Wd,We,Wj,Hh,Hi,Ho,Hq,Hs,Hv,Nl,Nm,No,Np,Nw,Nx,N1,N2,Be,q90R0.eq_1,q90R1.eq_1,q90R2.eq_1,q90R3.eq_1,q90R4.eq_1,q90R5.eq_1,q90R6.eq_1,q90R7.eq_1,q90R8.eq_1,c_token_Place.eq_1,hM,hN,hm,hn'])
  · have hm' : mayT h q = false := by simpa using hm
    (sym => simp [Qb,Qc,Qd,Qe,Qf,Qg,Qi,Qj,Qm,Qn,Qo,Qr,Qt,Qu,Qw,Q4,Xa,Xd,Xp,X5,X8,Yd,Yj,Yr,Yt,Yu,Yv,Y1,Y5,Y7,Y9,Za,Zb,Zc,Ze,Zg,Zh,Zi,Zj,Zk,Zl,Zm,Zn,Zo,Zr,Zs,Zt,Zu,Zv,Zw,Zy,Z0,Z3,Jb,Jj,Jk,Jl,Jn,Jo,Jp,Jr,Jv,Jx,Ue,Uf,Ug,Ul,V3,V6,V9,Wd,We,Wj,Hh,Hi,Ho,Hq,Hs,Hv,Nl,Nm,No,Np,Nw,Nx,N1,N2,Be,q90R0.eq_1,q90R1.eq_1,q90R2.eq_1,q90R3.eq_1,q90R4.eq_1,q90R5.eq_1,q90R6.eq_1,q90R7.eq_1,q90R8.eq_1,c_token_Place.eq_1,hM,hN,hm'])

/-- A token as the small machine's value. -/
def tokV (h : Int) (q : List Int) : AV := .agg [.int .i64 h, .data false 1 (ints q) false]
/-- What becomes of a token that somebody asks for. -/
def askT (h : Int) (q : List Int) (id : Int) : Int × List Int × Int :=
  if mayT h q = true ∧ numB id = true then if h = 0 then (id, [], 0) else if placeT h q id < 0 then (h, q ++ [id], 0) else (h, q, 0) else (0, [], 2)
theorem ask_P (h : Int) (q : List Int) (b f : Bool) (id : Int) (hl : q.length ≤ 1000) :
    aP G FT n_token_Ask [.agg [.int .i64 h, .data b 1 (ints q) f], .int .i64 id] = some (.tup [tokV (askT h q id).1 (askT h q id).2.1, .int .i64 (askT h q id).2.2]) := by
  have hp := fun b f => place_P G h q b f id hl
  have hM := fun b f => may_P G h q b f hl
  have hN := number_P G id
  have hC := fun b f => clone_int_run G b f q (by omega)
  unfold aP askT tokV
  rw [run_token_Ask]
  by_cases hm : mayT h q = true
  · by_cases hn : numB id = true
    · rw [if_pos ⟨hm, hn⟩]
      by_cases he : h = 0
      · have hq : q = [] := by simpa [mayT, he] using hm
        subst hq he
        have hq0 : placeT 0 [] id = -1 := by
          have : ¬ 0 = id := by intro e; subst e; simp [numB] at hn
          simp [placeT, hm, hn, this, idxFrom]
        rw [hq0] at hp
        simp only [ints_nil, List.length_nil] at hp hM hC
        (sym => simp [Qb,Qc,Qd,Qe,Qf,Qg,Qi,Qj,Qm,Qn,Qo,Qp,Qq,Qr,Qt,Qu,Qv,Qw,Qx,Qy,Qz,Q0,Q1,Q2,Q4,Q5,Q6,Q9,Xa,Xd,Xj,Xl,Xm,Xn,Xp,Xs,Xy,X0,X8,Ya,Yc,Yg,Yj,Yk,Yo,Yr,Yt,Yu,Yv,Yx,Y1,Y2,Y4,Y5,Y6,Y7,Y8,Y9,Za,Zb,Zc,Zd,Ze,Zg,Zh,Zi,Zj,Zk,Zl,Zm,Zn,Zo,Zp,Zq,Zr,Zs,Zt,Zu,Zv,Zw,Zx,Zy,Zz,Z0,Z1,Z3,Jb,Jj,Jk,Jl,Jr,Jv,Jw,Jx,J1,J2,J3,J7,Kv,Kx,K0,K1,K2,K8,K9,Ua,Ub,Uc,Ud,Ue,Uf,Ug,Ul,Uq,Us,U6,Vk,Vm,Vo,Vp,Vq,Vr,Vs,Vt,Vu,Vv,Vw,Vx,V3,V6,V9,Wd,We,Wf,Wg,Wh,Wi,Wj,Wp,Wq,Wz,W5,W6,W7,Hh,Hi,Hk,Hl,Ho,Hp,Hq,Hr,Hs,Ht,Hu,Hv,Hw,Hx,Hy,Hz,H2,H3,H5,H6,H8,Ng,Nh,Nl,Nm,No,Np,Nq,Ns,Nt,Nw,Nx,Nz,N0,N1,N2,Be,Bg,Bh,Bi,q82R0.eq_1,q82R1.eq_1,q82R2.eq_1,q82R3.eq_1,q82R4.eq_1,c_token_Ask.eq_1,run_token_change,q92R0.eq_1,q92R1.eq_1,q92R2.eq_1,q92R3.eq_1,c_token_change.eq_1,run_token_Ask_1,q83R0.eq_1,q83R1.eq_1,q83R2.eq_1,q83R3.eq_1,c_token_Ask_1.eq_1,run_token_arbiter_on,q91R0.eq_1,q91R1.eq_1,q91R2.eq_1,c_token_arbiter_on.eq_1,hM,hN,hp,hC,hm,hn,ints_nil])
      · by_cases hx : placeT h q id < 0
        · have hb : (q.length + 1) * 8 ≤ 140737488355328 := by omega
          have e1 : List.take q.length (ints q) = ints q := List.take_of_length_le (by rw [ints_len]; exact Nat.le_refl _)
          have e2 : List.take (q.length + 1) (ints q ++ [[.int .i64 id]]) = ints q ++ [[.int .i64 id]] := List.take_of_length_le (by simp [ints_len])
          have e3 : q.length + 1 ≤ q.length ↔ False := by simp
          (sym => simp [Qb,Qc,Qd,Qe,Qf,Qg,Qi,Qj,Qm,Qn,Qo,Qp,Qq,Qr,Qt,Qu,Qv,Qw,Qx,Qy,Qz,Q0,Q1,Q2,Q4,Q5,Q6,Q9,Xa,Xd,Xj,Xl,Xm,Xn,Xp,Xs,Xy,X0,X8,Ya,Yc,Yg,Yj,Yk,Yo,Yr,Yt,Yu,Yv,Yx,Y1,Y2,Y4,Y5,Y6,Y7,Y8,Y9,Za,Zb,Zc,Zd,Ze,Zg,Zh,Zi,Zj,Zk,Zl,Zm,Zn,Zo,Zp,Zq,Zr,Zs,Zt,Zu,Zv,Zw,Zx,Zy,Zz,Z0,Z1,Z3,Jb,Jj,Jk,Jl,Jr,Jv,Jw,Jx,J1,J2,J3,J7,Kv,Kx,K0,K1,K2,K8,K9,Ua,Ub,Uc,Ud,Ue,Uf,Ug,Ul,Uq,Us,U6,Vk,Vm,Vo,Vp,Vq,Vr,Vs,Vt,Vu,Vv,Vw,Vx,V3,V6,V9,Wd,We,Wf,Wg,Wh,Wi,Wj,Wp,Wq,Wz,W5,W6,W7,Hh,Hi,Hk,Hl,Ho,Hp,Hq,Hr,Hs,Ht,Hu,Hv,Hw,Hx,Hy,Hz,H2,H3,H5,H6,H8,Ng,Nh,Nl,Nm,No,Np,Nq,Ns,Nt,Nw,Nx,Nz,N0,N1,N2,Be,Bg,Bh,Bi,q82R0.eq_1,q82R1.eq_1,q82R2.eq_1,q82R3.eq_1,q82R4.eq_1,c_token_Ask.eq_1,run_token_change,q92R0.eq_1,q92R1.eq_1,q92R2.eq_1,q92R3.eq_1,c_token_change.eq_1,run_token_Ask_1,q83R0.eq_1,q83R1.eq_1,q83R2.eq_1,q83R3.eq_1,c_token_Ask_1.eq_1,hM,hN,hp,hC,hm,hn,he,hx,hb,e1,e2,e3,ints_len,ints_append,ints_cons,ints_nil])
        · have e1 : List.take q.length (ints q) = ints q := List.take_of_length_le (by rw [ints_len]; exact Nat.le_refl _)
          (sym => simp [Qb,Qc,Qd,Qe,Qf,Qg,Qi,Qj,Qm,Qn,Qo,Qp,Qq,Qr,Qt,Qu,Qv,Qw,Qx,Qy,Qz,Q0,Q1,Q2,Q4,Q5,Q6,Q9,Xa,Xd,Xj,Xl,Xm,Xn,Xp,Xs,Xy,X0,X8,Ya,Yc,Yg,Yj,Yk,Yo,Yr,Yt,Yu,Yv,Yx,Y1,Y2,Y4,Y5,Y6,Y7,Y8,Y9,Za,Zb,Zc,Zd,Ze,Zg,Zh,Zi,Zj,Zk,Zl,Zm,Zn,Zo,Zp,Zq,Zr,Zs,Zt,Zu,Zv,Zw,Zx,Zy,Zz,Z0,Z1,Z3,Jb,Jj,Jk,Jl,Jr,Jv,Jw,Jx,J1,J2,J3,J7,Kv,Kx,K0,K1,K2,K8,K9,Ua,Ub,Uc,Ud,Ue,Uf,Ug,Ul,Uq,Us,U6,Vk,Vm,Vo,Vp,Vq,Vr,Vs,Vt,Vu,Vv,Vw,Vx,V3,V6,V9,Wd,We,Wf,Wg,Wh,Wi,Wj,Wp,Wq,Wz,W5,W6,W7,Hh,Hi,Hk,Hl,Ho,Hp,Hq,Hr,Hs,Ht,Hu,Hv,Hw,Hx,Hy,Hz,H2,H3,H5,H6,H8,Ng,Nh,Nl,Nm,No,Np,Nq,Ns,Nt,Nw,Nx,Nz,N0,N1,N2,Be,Bg,Bh,Bi,q82R0.eq_1,q82R1.eq_1,q82R2.eq_1,q82R3.eq_1,q82R4.eq_1,c_token_Ask.eq_1,run_token_change,q92R0.eq_1,q92R1.eq_1,q92R2.eq_1,q92R3.eq_1,c_token_change.eq_1,run_token_Ask_1,q83R0.eq_1,q83R1.eq_1,q83R2.eq_1,q83R3.eq_1,c_token_Ask_1.eq_1,hM,hN,hp,hC,hm,hn,he,hx,e1,ints_len])
    · have hn' : numB id = false := by simpa using hn
      (sym => simp [Qb,Qc,Qd,Qe,Qf,Qg,Qi,Qj,Qm,Qn,Qo,Qp,Qq,Qr,Qt,Qu,Qv,Qw,Qx,Qy,Qz,Q0,Q1,Q2,Q4,Q5,Q6,Q9,Xa,Xd,Xj,Xl,Xm,Xn,Xp,Xs,Xy,X0,X8,Ya,Yc,Yg,Yj,Yk,Yo,Yr,Yt,Yu,Yv,Yx,Y1,Y2,Y4,Y5,Y6,Y7,Y8,Y9,Za,Zb,Zc,Zd,Ze,Zg,Zh,Zi,Zj,Zk,Zl,Zm,Zn,Zo,Zp,Zq,Zr,Zs,Zt,Zu,Zv,Zw,Zx,Zy,Zz,Z0,Z1,Z3,Jb,Jj,Jk,Jl,Jr,Jv,Jw,Jx,J1,J2,J3,J7,Kv,Kx,K0,K1,K2,K8,K9,Ua,Ub,Uc,Ud,Ue,Uf,Ug,Ul,Uq,Us,U6,Vk,Vm,Vo,Vp,Vq,Vr,Vs,Vt,Vu,Vv,Vw,Vx,V3,V6,V9,Wd,We,Wf,Wg,Wh,Wi,Wj,Wp,Wq,Wz,W5,W6,W7,Hh,Hi,Hk,Hl,Ho,Hp,Hq,Hr,Hs,Ht,Hu,Hv,Hw,Hx,Hy,Hz,H2,H3,H5,H6,H8,Ng,Nh,Nl,Nm,No,Np,Nq,Ns,Nt,Nw,Nx,Nz,N0,N1,N2,Be,Bg,Bh,Bi,q82R0.eq_1,q82R1.eq_1,q82R2.eq_1,q82R3.eq_1,q82R4.eq_1,c_token_Ask.eq_1,hM,hN,hm,hn',ints_nil])
  · have hm' : mayT h q = false := by simpa using hm
    (sym => simp [Qb,Qc,Qd,Qe,Qf,Qg,Qi,Qj,Qm,Qn,Qo,Qp,Qq,Qr,Qt,Qu,Qv,Qw,Qx,Qy,Qz,Q0,Q1,Q2,Q4,Q5,Q6,Q9,Xa,Xd,Xj,Xl,Xm,Xn,Xp,Xs,Xy,X0,X8,Ya,Yc,Yg,Yj,Yk,Yo,Yr,Yt,Yu,Yv,Yx,Y1,Y2,Y4,Y5,Y6,Y7,Y8,Y9,Za,Zb,Zc,Zd,Ze,Zg,Zh,Zi,Zj,Zk,Zl,Zm,Zn,Zo,Zp,Zq,Zr,Zs,Zt,Zu,Zv,Zw,Zx,Zy,Zz,Z0,Z1,Z3,Jb,Jj,Jk,Jl,Jr,Jv,Jw,Jx,J1,J2,J3,J7,Kv,Kx,K0,K1,K2,K8,K9,Ua,Ub,Uc,Ud,Ue,Uf,Ug,Ul,Uq,Us,U6,Vk,Vm,Vo,Vp,Vq,Vr,Vs,Vt,Vu,Vv,Vw,Vx,V3,V6,V9,Wd,We,Wf,Wg,Wh,Wi,Wj,Wp,Wq,Wz,W5,W6,W7,Hh,Hi,Hk,Hl,Ho,Hp,Hq,Hr,Hs,Ht,Hu,Hv,Hw,Hx,Hy,Hz,H2,H3,H5,H6,H8,Ng,Nh,Nl,Nm,No,Np,Nq,Ns,Nt,Nw,Nx,Nz,N0,N1,N2,Be,Bg,Bh,Bi,q82R0.eq_1,q82R1.eq_1,q82R2.eq_1,q82R3.eq_1,q82R4.eq_1,c_token_Ask.eq_1,hM,hN,hm',ints_nil])
end Go.Proofs.Ythcnhibjddomdaa
