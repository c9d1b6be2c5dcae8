/- Sessions: are two the same? Conditions: as each statement says. -/
import Derived.Test.YthcnhibjddomdaaGreatSea
set_option linter.unusedVariables false
set_option linter.unusedSimpArgs false
set_option linter.unusedSectionVars false
set_option maxRecDepth 20000
set_option maxHeartbeats 8000000
namespace Go.Proofs.YthcnhibjddomdaaGreat
open Go
variable (G : Nat → Option (List AV))
section
variable (q1 q2 : List (Int × Int)) (b1 f1 b2 f2 : Bool) (hl : q1.length = q2.length) (hb : q1.length < 1000000)
include hl hb
theorem eqM_loop : ∀ (m i : Nat), i + m = q1.length →
    aE G FT 0 lp_slices_Equal_Member_0 ⟨[(0, .data b1 2 (mbs q1) f1), (1, .data b2 2 (mbs q2) f2), (12, .int .i64 q1.length), (13, .int .i64 i)], []⟩ =
      if q1.drop i = q2.drop i then some (.exit 0, ⟨[(0, .data b1 2 (mbs q1) f1), (1, .data b2 2 (mbs q2) f2), (12, .int .i64 q1.length), (13, .int .i64 q1.length), (14, .bool false)], []⟩) else some (.ret, ⟨[(4, .bool false)], []⟩) := by
  intro m
  induction m with
  | zero =>
    intro i hi
    obtain rfl : i = q1.length := by omega
    rw [lp_slices_Equal_Member_0, y_loop, if_pos (by rw [List.drop_length, hl, List.drop_length])]
    have h4 : ¬ (q1.length : Int) < q1.length := by omega
    (sym => simp [Qa,Qb,Qc,Qd,Qe,Qi,Qj,Qr,Qt,Q4,Xa,Xb,Xs,X5,Ya,Ys,Yu,Yy,Y9,Za,Zb,Zc,Ze,Zg,Zh,Zk,Zl,Zm,Zn,Zt,Zv,Zw,Z3,Jg,Jj,Jk,Jl,Jm,Jn,Jo,Jp,Jr,Js,Jt,Ju,Jv,Kh,Kk,Kl,Km,Ux,U0,U4,U5,Vb,Ve,Vo,Vq,Vr,Vt,Vv,Vw,Vy,Vz,V0,Ho,Hq,Hs,Hw,H1,Ni,Nk,Nl,Nm,No,Nq,Nr,Nw,Nx,Be,q106R0.eq_1,q106R1.eq_1,q106R2.eq_1,q106R3.eq_1,q106R4.eq_1,q106R5.eq_1,q106R6.eq_1,q106R7.eq_1,q106R8.eq_1,q106R9.eq_1,c_slices_Equal_Member.eq_1,c_slices_Equal_Member_L0.eq_1,h4,mbs_len])
  | succ m ih =>
    intro i hi
    have ih := ih (i + 1) (by omega)
    have hlt : i < q1.length := by omega
    have hlt2 : i < q2.length := by omega
    have h4 : (i : Int) < q1.length := by omega
    have h5 : (i : Int) < q2.length := by omega
    have g1 := mbs_at hlt
    have g2 := mbs_at hlt2
    have e1 : q1.drop i = q1[i] :: q1.drop (i + 1) := List.drop_eq_getElem_cons hlt
    have e2 : q2.drop i = q2[i] :: q2.drop (i + 1) := List.drop_eq_getElem_cons hlt2
    have hw := wrap_nat (n := i) (by omega)
    rw [lp_slices_Equal_Member_0] at ih
    rw [lp_slices_Equal_Member_0, y_loop, e1, e2]
    generalize q1[i] = x at g1 e1 ⊢
    generalize q2[i] = y at g2 e2 ⊢
    obtain ⟨a, r⟩ := x
    obtain ⟨a2, r2⟩ := y
    simp only at g1 g2
    by_cases ha : a = a2
    · by_cases hr : r = r2
      · subst ha hr
        simp only [List.cons.injEq, true_and]
        rw [← ih]
        (sym => simp [Qa,Qb,Qc,Qd,Qe,Qi,Qj,Qr,Qt,Q4,Xa,Xb,Xs,X5,Ya,Ys,Yu,Yy,Y9,Za,Zb,Zc,Ze,Zg,Zh,Zk,Zl,Zm,Zn,Zt,Zv,Zw,Z3,Jg,Jj,Jk,Jl,Jm,Jn,Jo,Jp,Jr,Js,Jt,Ju,Jv,Kh,Kk,Kl,Km,Ux,U0,U4,U5,Vb,Ve,Vo,Vq,Vr,Vt,Vv,Vw,Vy,Vz,V0,Ho,Hq,Hs,Hw,H1,Ni,Nk,Nl,Nm,No,Nq,Nr,Nw,Nx,Be,q106R0.eq_1,q106R1.eq_1,q106R2.eq_1,q106R3.eq_1,q106R4.eq_1,q106R5.eq_1,q106R6.eq_1,q106R7.eq_1,q106R8.eq_1,q106R9.eq_1,c_slices_Equal_Member.eq_1,c_slices_Equal_Member_L0.eq_1,h4,h5,mbs_len,g1,g2,hw])
      · rw [if_neg (fun h => hr (congrArg Prod.snd (List.cons.inj h).1))]
        (sym => simp [Qa,Qb,Qc,Qd,Qe,Qi,Qj,Qr,Qt,Q4,Xa,Xb,Xs,X5,Ya,Ys,Yu,Yy,Y9,Za,Zb,Zc,Ze,Zg,Zh,Zk,Zl,Zm,Zn,Zt,Zv,Zw,Z3,Jg,Jj,Jk,Jl,Jm,Jn,Jo,Jp,Jr,Js,Jt,Ju,Jv,Kh,Kk,Kl,Km,Ux,U0,U4,U5,Vb,Ve,Vo,Vq,Vr,Vt,Vv,Vw,Vy,Vz,V0,Ho,Hq,Hs,Hw,H1,Ni,Nk,Nl,Nm,No,Nq,Nr,Nw,Nx,Be,q106R0.eq_1,q106R1.eq_1,q106R2.eq_1,q106R3.eq_1,q106R4.eq_1,q106R5.eq_1,q106R6.eq_1,q106R7.eq_1,q106R8.eq_1,q106R9.eq_1,c_slices_Equal_Member.eq_1,c_slices_Equal_Member_L0.eq_1,h4,h5,mbs_len,g1,g2,ha,hr,hw])
    · rw [if_neg (fun h => ha (congrArg Prod.fst (List.cons.inj h).1))]
      (sym => simp [Qa,Qb,Qc,Qd,Qe,Qi,Qj,Qr,Qt,Q4,Xa,Xb,Xs,X5,Ya,Ys,Yu,Yy,Y9,Za,Zb,Zc,Ze,Zg,Zh,Zk,Zl,Zm,Zn,Zt,Zv,Zw,Z3,Jg,Jj,Jk,Jl,Jm,Jn,Jo,Jp,Jr,Js,Jt,Ju,Jv,Kh,Kk,Kl,Km,Ux,U0,U4,U5,Vb,Ve,Vo,Vq,Vr,Vt,Vv,Vw,Vy,Vz,V0,Ho,Hq,Hs,Hw,H1,Ni,Nk,Nl,Nm,No,Nq,Nr,Nw,Nx,Be,q106R0.eq_1,q106R1.eq_1,q106R2.eq_1,q106R3.eq_1,q106R4.eq_1,q106R5.eq_1,q106R6.eq_1,q106R7.eq_1,q106R8.eq_1,q106R9.eq_1,c_slices_Equal_Member.eq_1,c_slices_Equal_Member_L0.eq_1,h4,h5,mbs_len,g1,g2,ha,hw])
end
theorem eqM_P (q1 q2 : List (Int × Int)) (b1 f1 b2 f2 : Bool) (hb : q1.length < 1000000) : aP G FT n_slices_Equal_Member [.data b1 2 (mbs q1) f1, .data b2 2 (mbs q2) f2] = some (.bool (decide (q1 = q2))) := by
  unfold aP
  rw [run_slices_Equal_Member]
  by_cases hl : q1.length = q2.length
  · have key := eqM_loop G q1 q2 b1 f1 b2 f2 hl hb q1.length 0 (by omega)
    simp only [List.drop_zero, Int.natCast_zero] at key
    have hl2 : ((q1.length : Int) = q2.length) ↔ True := by simp [hl]
    by_cases hq : q1 = q2
    · rw [if_pos hq] at key
      have hd : decide (q1 = q2) = true := by simp [hq]
      rw [hd]
      (sym => simp [Qb,Qc,Qd,Qe,Qi,Qj,Qr,Qt,Xa,Xy,X9,Yh,Y1,Y5,Y7,Y9,Za,Zb,Zc,Ze,Zg,Zh,Zi,Zj,Zk,Zl,Zm,Zr,Zs,Zt,Zu,Zv,Zw,Z3,Jj,Jk,Jl,Jn,Jp,Jq,Jr,Jv,Jx,Wk,Nl,Nm,Nw,Nx,Be,q106R0.eq_1,q106R1.eq_1,q106R2.eq_1,q106R3.eq_1,q106R4.eq_1,q106R5.eq_1,q106R6.eq_1,q106R7.eq_1,q106R8.eq_1,q106R9.eq_1,c_slices_Equal_Member.eq_1,key,mbs_len,hl2])
    · rw [if_neg hq] at key
      have hd : decide (q1 = q2) = false := by simp [hq]
      rw [hd]
      (sym => simp [Qb,Qc,Qd,Qe,Qi,Qj,Qr,Qt,Xa,Xy,X9,Yh,Y1,Y5,Y7,Y9,Za,Zb,Zc,Ze,Zg,Zh,Zi,Zj,Zk,Zl,Zm,Zr,Zs,Zt,Zu,Zv,Zw,Z3,Jj,Jk,Jl,Jn,Jp,Jq,Jr,Jv,Jx,Wk,Nl,Nm,Nw,Nx,Be,q106R0.eq_1,q106R1.eq_1,q106R2.eq_1,q106R3.eq_1,q106R4.eq_1,q106R5.eq_1,q106R6.eq_1,q106R7.eq_1,q106R8.eq_1,q106R9.eq_1,c_slices_Equal_Member.eq_1,key,mbs_len,hl2])
  · have hd : decide (q1 = q2) = false := by simp; intro h; exact hl (by rw [h])
    rw [hd]
    have hl2 : ¬ ((q1.length : Int) = q2.length) := by omega
    (sym => simp [Qb,Qc,Qd,Qe,Qi,Qj,Qr,Qt,Xa,Xy,X9,Yh,Y1,Y5,Y7,Y9,Za,Zb,Zc,Ze,Zg,Zh,Zi,Zj,Zk,Zl,Zm,Zr,Zs,Zt,Zu,Zv,Zw,Z3,Jj,Jk,Jl,Jn,Jp,Jq,Jr,Jv,Jx,Wk,Nl,Nm,Nw,Nx,Be,q106R0.eq_1,q106R1.eq_1,q106R2.eq_1,q106R3.eq_1,q106R4.eq_1,q106R5.eq_1,q106R6.eq_1,q106R7.eq_1,q106R8.eq_1,q106R9.eq_1,c_slices_Equal_Member.eq_1,mbs_len,hl2])
section
variable (q1 q2 : List Int) (b1 f1 b2 f2 : Bool) (hl : q1.length = q2.length) (hb : q1.length < 1000000)
include hl hb
theorem eqI_loop : ∀ (m i : Nat), i + m = q1.length →
    aE G FT 0 lp_slices_Equal_int_0 ⟨[(0, .data b1 1 (ints q1) f1), (1, .data b2 1 (ints q2) f2), (12, .int .i64 q1.length), (13, .int .i64 i)], []⟩ =
      if q1.drop i = q2.drop i then some (.exit 0, ⟨[(0, .data b1 1 (ints q1) f1), (1, .data b2 1 (ints q2) f2), (12, .int .i64 q1.length), (13, .int .i64 q1.length), (14, .bool false)], []⟩) else some (.ret, ⟨[(4, .bool false)], []⟩) := by
  intro m
  induction m with
  | zero =>
    intro i hi
    obtain rfl : i = q1.length := by omega
    rw [lp_slices_Equal_int_0, y_loop, if_pos (by rw [List.drop_length, hl, List.drop_length])]
    have h4 : ¬ (q1.length : Int) < q1.length := by omega
    (sym => simp [Qa,Qb,Qc,Qd,Qe,Qi,Qj,Qr,Qt,Q4,Xa,Xs,X5,X9,Ya,Ys,Yt,Yy,Y9,Za,Zb,Zc,Ze,Zg,Zh,Zk,Zl,Zt,Zv,Zw,Z3,Jj,Jk,Jl,Jm,Jn,Jo,Jp,Jr,Js,Jt,Ju,Jv,Ux,U0,U4,U5,Vb,Ve,Vo,Vq,Vr,Vt,Vv,Vw,Vy,Vz,V0,Hh,Hq,Hw,H1,Ni,Nk,Nl,Nm,No,Nw,Nx,Be,q107R0.eq_1,q107R1.eq_1,q107R2.eq_1,q107R3.eq_1,q107R4.eq_1,q107R5.eq_1,q107R6.eq_1,q107R7.eq_1,q107R8.eq_1,q107R9.eq_1,c_slices_Equal_int.eq_1,c_slices_Equal_int_L0.eq_1,h4,ints_len])
  | succ m ih =>
    intro i hi
    have ih := ih (i + 1) (by omega)
    have hlt : i < q1.length := by omega
    have hlt2 : i < q2.length := by omega
    have h4 : (i : Int) < q1.length := by omega
    have g1 := ints_at hlt
    have g2 := ints_at hlt2
    have e1 : q1.drop i = q1[i] :: q1.drop (i + 1) := List.drop_eq_getElem_cons hlt
    have e2 : q2.drop i = q2[i] :: q2.drop (i + 1) := List.drop_eq_getElem_cons hlt2
    have hw := wrap_nat (n := i) (by omega)
    rw [lp_slices_Equal_int_0] at ih
    rw [lp_slices_Equal_int_0, y_loop, e1, e2]
    by_cases hx : q1[i] = q2[i]
    · simp only [List.cons.injEq, hx, true_and]
      rw [← ih]
      (sym => simp [Qa,Qb,Qc,Qd,Qe,Qi,Qj,Qr,Qt,Q4,Xa,Xs,X5,X9,Ya,Ys,Yt,Yy,Y9,Za,Zb,Zc,Ze,Zg,Zh,Zk,Zl,Zt,Zv,Zw,Z3,Jj,Jk,Jl,Jm,Jn,Jo,Jp,Jr,Js,Jt,Ju,Jv,Ux,U0,U4,U5,Vb,Ve,Vo,Vq,Vr,Vt,Vv,Vw,Vy,Vz,V0,Hh,Hq,Hw,H1,Ni,Nk,Nl,Nm,No,Nw,Nx,Be,q107R0.eq_1,q107R1.eq_1,q107R2.eq_1,q107R3.eq_1,q107R4.eq_1,q107R5.eq_1,q107R6.eq_1,q107R7.eq_1,q107R8.eq_1,q107R9.eq_1,c_slices_Equal_int.eq_1,c_slices_Equal_int_L0.eq_1,h4,ints_len,g1,g2,hx,hw])
    · rw [if_neg (fun h => hx (List.cons.inj h).1)]
      (sym => simp [Qa,Qb,Qc,Qd,Qe,Qi,Qj,Qr,Qt,Q4,Xa,Xs,X5,X9,Ya,Ys,Yt,Yy,Y9,Za,Zb,Zc,Ze,Zg,Zh,Zk,Zl,Zt,Zv,Zw,Z3,Jj,Jk,Jl,Jm,Jn,Jo,Jp,Jr,Js,Jt,Ju,Jv,Ux,U0,U4,U5,Vb,Ve,Vo,Vq,Vr,Vt,Vv,Vw,Vy,Vz,V0,Hh,Hq,Hw,H1,Ni,Nk,Nl,Nm,No,Nw,Nx,Be,q107R0.eq_1,q107R1.eq_1,q107R2.eq_1,q107R3.eq_1,q107R4.eq_1,q107R5.eq_1,q107R6.eq_1,q107R7.eq_1,q107R8.eq_1,q107R9.eq_1,c_slices_Equal_int.eq_1,c_slices_Equal_int_L0.eq_1,h4,ints_len,g1,g2,hx,hw])
end
theorem eqI_P (q1 q2 : List Int) (b1 f1 b2 f2 : Bool) (hb : q1.length < 1000000) : aP G FT n_slices_Equal_int [.data b1 1 (ints q1) f1, .data b2 1 (ints q2) f2] = some (.bool (decide (q1 = q2))) := by
  unfold aP
  rw [run_slices_Equal_int]
  by_cases hl : q1.length = q2.length
  · have key := eqI_loop G q1 q2 b1 f1 b2 f2 hl hb q1.length 0 (by omega)
    simp only [List.drop_zero, Int.natCast_zero] at key
    have hl2 : ((q1.length : Int) = q2.length) ↔ True := by simp [hl]
    by_cases hq : q1 = q2
    · rw [if_pos hq] at key
      have hd : decide (q1 = q2) = true := by simp [hq]
      rw [hd]
      (sym => simp [Qb,Qc,Qd,Qe,Qi,Qj,Qr,Qt,Xa,Xy,X9,Yh,Y1,Y5,Y7,Y9,Za,Zb,Zc,Ze,Zg,Zh,Zi,Zj,Zk,Zl,Zm,Zr,Zs,Zt,Zu,Zv,Zw,Z3,Jj,Jk,Jl,Jn,Jp,Jq,Jr,Jv,Jx,Wk,Nl,Nm,Nw,Nx,Be,q107R0.eq_1,q107R1.eq_1,q107R2.eq_1,q107R3.eq_1,q107R4.eq_1,q107R5.eq_1,q107R6.eq_1,q107R7.eq_1,q107R8.eq_1,q107R9.eq_1,c_slices_Equal_int.eq_1,key,ints_len,hl2])
    · rw [if_neg hq] at key
      have hd : decide (q1 = q2) = false := by simp [hq]
      rw [hd]
      (sym => simp [Qb,Qc,Qd,Qe,Qi,Qj,Qr,Qt,Xa,Xy,X9,Yh,Y1,Y5,Y7,Y9,Za,Zb,Zc,Ze,Zg,Zh,Zi,Zj,Zk,Zl,Zm,Zr,Zs,Zt,Zu,Zv,Zw,Z3,Jj,Jk,Jl,Jn,Jp,Jq,Jr,Jv,Jx,Wk,Nl,Nm,Nw,Nx,Be,q107R0.eq_1,q107R1.eq_1,q107R2.eq_1,q107R3.eq_1,q107R4.eq_1,q107R5.eq_1,q107R6.eq_1,q107R7.eq_1,q107R8.eq_1,q107R9.eq_1,c_slices_Equal_int.eq_1,key,ints_len,hl2])
  · have hd : decide (q1 = q2) = false := by simp; intro h; exact hl (by rw [h])
    rw [hd]
    have hl2 : ¬ ((q1.length : Int) = q2.length) := by omega
    (sym => simp [Qb,Qc,Qd,Qe,Qi,Qj,Qr,Qt,Xa,Xy,X9,Yh,Y1,Y5,Y7,Y9,Za,Zb,Zc,Ze,Zg,Zh,Zi,Zj,Zk,Zl,Zm,Zr,Zs,Zt,Zu,Zv,Zw,Z3,Jj,Jk,Jl,Jn,Jp,Jq,Jr,Jv,Jx,Wk,Nl,Nm,Nw,Nx,Be,q107R0.eq_1,q107R1.eq_1,q107R2.eq_1,q107R3.eq_1,q107R4.eq_1,q107R5.eq_1,q107R6.eq_1,q107R7.eq_1,q107R8.eq_1,q107R9.eq_1,c_slices_Equal_int.eq_1,ints_len,hl2])
/-! ### Pieces -/
def bso (l : List Int) : List UInt8 := l.map fun x => UInt8.ofNat x.toNat
theorem asb_bso : ∀ l : List Int, asBytes (byt l) = some (bso l)
  | [] => rfl
  | x :: l => by
    have := asb_bso l
    unfold byt bso at *
    rw [List.map_cons, asBytes, this]; rfl
def bEq (a b : List Int) : Bool := (⟨(bso a).toArray⟩ : ByteArray) == ⟨(bso b).toArray⟩
theorem bEq_self (a : List Int) : bEq a a = true := by
  show ((bso a).toArray == (bso a).toArray) = true
  simp
def sameP (x y : Pc) : Bool := decide (x.1 = y.1) && decide (x.2.1 = y.2.1) && bEq x.2.2.1 y.2.2.1
def sameQ : List Pc → List Pc → Bool
  | [], [] => true
  | x :: p, y :: q => sameP x y && sameQ p q
  | _, _ => false
theorem sameQ_len : ∀ {p q : List Pc}, sameQ p q = true → p.length = q.length
  | [], [], _ => rfl
  | x :: p, y :: q, h => by
    rw [sameQ, Bool.and_eq_true] at h
    rw [List.length_cons, List.length_cons, sameQ_len h.2]
  | [], _ :: _, h => by simp [sameQ] at h
  | _ :: _, [], h => by simp [sameQ] at h
theorem bytesEq_P (l m : List Int) (b f b2 f2 : Bool) : aP G FT n_bytes_Equal [.data b 1 (byt l) f, .data b2 1 (byt m) f2] = some (.bool (bEq l m)) := by
  have h1 := asb_bso l
  have h2 := asb_bso m
  unfold aP bEq
  rw [run_bytes_Equal]
  (sym => simp [Qb,Qd,Qe,Qi,Qj,Qr,Xb,Xi,Y1,Y3,Y5,Y7,Y9,Za,Zb,Zc,Ze,Zg,Zh,Zi,Zj,Zk,Zl,Zm,Zr,Zs,Zt,Zu,Zv,Zw,Jh,Jj,Jk,Jv,Jx,Kj,Kn,Wk,Hf,Be,q1R0.eq_1,q1R1.eq_1,c_bytes_Equal.eq_1,h1,h2])
theorem same1_run (x y : Pc) (e0 e1 e2 e3 : List (List AV)) : aR G FT n_session_Same_1 [.agg (pcell x), .agg (pcell y)] [⟨33, 0, true, e0⟩, ⟨33, 0, true, e1⟩, ⟨3, 0, true, e2⟩, ⟨3, 0, true, e3⟩] = some (.bool (sameP x y), [⟨33, 0, true, e0⟩, ⟨33, 0, true, e1⟩, ⟨3, 0, true, e2⟩, ⟨3, 0, true, e3⟩, ⟨3, 0, true, [pcell x]⟩, ⟨3, 0, true, [pcell y]⟩]) := by
  have hB := fun f f2 => bytesEq_P G x.2.2.1 y.2.2.1 false f false f2
  unfold sameP pcell
  rw [run_session_Same_1]
  by_cases h1 : x.1 = y.1
  · by_cases h2 : x.2.1 = y.2.1
    · (sym => simp [Qb,Qd,Qe,Qf,Qg,Qi,Qj,Qm,Qn,Qo,Qr,Qt,Qu,Qw,Q4,Xa,Xp,X8,Yj,Yr,Yt,Yv,Y1,Y5,Y7,Y9,Za,Zb,Zc,Ze,Zg,Zh,Zi,Zj,Zk,Zl,Zm,Zn,Zo,Zr,Zs,Zt,Zu,Zv,Zw,Zy,Z0,Z3,Ja,Jj,Jk,Jv,Jx,Ue,Uf,Ug,Ul,V9,Wd,We,Hh,Hi,Hu,Hv,Nl,Nm,No,Np,Nq,Nr,Nx,Be,q75R0.eq_1,q75R1.eq_1,c_session_Same_1.eq_1,hB,h1,h2])
    · (sym => simp [Qb,Qd,Qe,Qf,Qg,Qi,Qj,Qm,Qn,Qo,Qr,Qt,Qu,Qw,Q4,Xa,Xp,X8,Yj,Yr,Yt,Yv,Y1,Y5,Y7,Y9,Za,Zb,Zc,Ze,Zg,Zh,Zi,Zj,Zk,Zl,Zm,Zn,Zo,Zr,Zs,Zt,Zu,Zv,Zw,Zy,Z0,Z3,Ja,Jj,Jk,Jv,Jx,Ue,Uf,Ug,Ul,V9,Wd,We,Hh,Hi,Hu,Hv,Nl,Nm,No,Np,Nq,Nr,Nx,Be,q75R0.eq_1,q75R1.eq_1,c_session_Same_1.eq_1,hB,h1,h2])
  · (sym => simp [Qb,Qd,Qe,Qf,Qg,Qi,Qj,Qm,Qn,Qo,Qr,Qt,Qu,Qw,Q4,Xa,Xp,X8,Yj,Yr,Yt,Yv,Y1,Y5,Y7,Y9,Za,Zb,Zc,Ze,Zg,Zh,Zi,Zj,Zk,Zl,Zm,Zn,Zo,Zr,Zs,Zt,Zu,Zv,Zw,Zy,Z0,Z3,Ja,Jj,Jk,Jv,Jx,Ue,Uf,Ug,Ul,V9,Wd,We,Hh,Hi,Hu,Hv,Nl,Nm,No,Np,Nq,Nr,Nx,Be,q75R0.eq_1,q75R1.eq_1,c_session_Same_1.eq_1,hB,h1])
theorem eqQ_loop (p q : List Pc) (b1 f1 b2 f2 : Bool) (hl : p.length = q.length) (hb : p.length < 1000000) (e0 e1 : List (List AV)) : ∀ (m i : Nat), i + m = p.length → ∃ e,
    ∀ st, agc 2 [1, 2, 15, 16, 17] st = some ⟨[(1, .data b2 3 (pcs q) f2), (2, .fn (.func n_session_Same_1) [] []), (15, .data b1 3 (pcs p) f1), (16, .int .i64 p.length), (17, .int .i64 i)], [⟨33, 0, true, e0⟩, ⟨33, 0, true, e1⟩]⟩ →
      aE G FT 2 lp_slices_EqualFunc_LTyped_LTyped_Typed_Typed_0 st = if sameQ (p.drop i) (q.drop i) = true then some (.exit 0, ⟨[(1, .data b2 3 (pcs q) f2), (2, .fn (.func n_session_Same_1) [] []), (15, .data b1 3 (pcs p) f1), (16, .int .i64 p.length), (17, .int .i64 p.length), (18, .bool false)], [⟨33, 0, true, e0⟩, ⟨33, 0, true, e1⟩]⟩)
        else some (.ret, ⟨[(6, .bool false)], [⟨33, 0, true, e0⟩, ⟨33, 0, true, e1⟩] ++ e⟩) := by
  intro m
  induction m with
  | zero =>
    intro i hi
    obtain rfl : i = p.length := by omega
    refine ⟨[], fun st hst => ?_⟩
    rw [lp_slices_EqualFunc_LTyped_LTyped_Typed_Typed_0, y_loop, hst, if_pos (by rw [List.drop_length, hl, List.drop_length]; rfl)]
    have h4 : ¬ (p.length : Int) < p.length := by omega
    (sym => simp [Qa,Qb,Qc,Qd,Qe,Qi,Qj,Qm,Qn,Qp,Qq,Qr,Qt,Qv,Q4,Q5,Xa,Xd,Xs,X5,Ya,Yr,Ys,Yu,Yy,Y9,Za,Zb,Zc,Zd,Ze,Zg,Zh,Zk,Zl,Zm,Zn,Zt,Zv,Zw,Zy,Z0,Z1,Z3,Jj,Jk,Jl,Jm,Jn,Jo,Jp,Jr,Js,Jt,Ju,Jv,J1,J2,Ue,Uf,Ug,Ul,Uw,Ux,U0,U4,U5,Va,Vb,Ve,Vi,Vk,Vm,Vo,Vq,Vr,Vt,Vv,Vw,Vy,Vz,V0,Hh,Hi,Hk,Hl,Ho,Hp,Hq,Hr,Hs,Ht,Hu,Hv,Hw,H0,H1,Ni,Nk,Nl,Nm,No,Nw,Nx,N0,Be,q105R0.eq_1,q105R1.eq_1,q105R2.eq_1,q105R3.eq_1,q105R4.eq_1,q105R5.eq_1,q105R6.eq_1,q105R7.eq_1,q105R8.eq_1,q105R9.eq_1,q105R10.eq_1,c_slices_EqualFunc_LTyped_LTyped_Typed_Typed.eq_1,c_slices_EqualFunc_LTyped_LTyped_Typed_Typed_L0.eq_1,h4])
  | succ m ih =>
    intro i hi
    obtain ⟨e, ih⟩ := ih (i + 1) (by omega)
    have hlt : i < p.length := by omega
    have hlt2 : i < q.length := by omega
    have h4 : (i : Int) < p.length := by omega
    have g1 := pcs_at hlt
    have g2 := pcs_at hlt2
    have d1 : p.drop i = p[i] :: p.drop (i + 1) := List.drop_eq_getElem_cons hlt
    have d2 : q.drop i = q[i] :: q.drop (i + 1) := List.drop_eq_getElem_cons hlt2
    have hw := wrap_nat (n := i) (by omega)
    have hS := fun e2 e3 => same1_run G p[i] q[i] e0 e1 e2 e3
    simp only [pcell] at hS
    have l1 := pcs_len p
    have l2 := pcs_len q
    rw [lp_slices_EqualFunc_LTyped_LTyped_Typed_Typed_0] at ih
    rw [lp_slices_EqualFunc_LTyped_LTyped_Typed_Typed_0, d1, d2, sameQ]
    cases hx : sameP p[i] q[i] with
    | true =>
      rw [hx] at hS
      rw [Bool.true_and]
      refine ⟨e, fun st hst => ?_⟩
      rw [y_loop, hst]
      generalize (if sameQ (p.drop (i + 1)) (q.drop (i + 1)) = true then _ else _ : Option (AEx × ASt)) = R at ih ⊢
      (sym => simp [Qa,Qb,Qc,Qd,Qe,Qi,Qj,Qm,Qn,Qp,Qq,Qr,Qt,Qv,Q4,Q5,Xa,Xd,Xs,X5,Ya,Yr,Ys,Yu,Yy,Y9,Za,Zb,Zc,Zd,Ze,Zg,Zh,Zk,Zl,Zm,Zn,Zt,Zv,Zw,Zy,Z0,Z1,Z3,Jj,Jk,Jl,Jm,Jn,Jo,Jp,Jr,Js,Jt,Ju,Jv,J1,J2,Ue,Uf,Ug,Ul,Uw,Ux,U0,U4,U5,Va,Vb,Ve,Vi,Vk,Vm,Vo,Vq,Vr,Vt,Vv,Vw,Vy,Vz,V0,Hh,Hi,Hk,Hl,Ho,Hp,Hq,Hr,Hs,Ht,Hu,Hv,Hw,H0,H1,Ni,Nk,Nl,Nm,No,Nw,Nx,N0,Be,q105R0.eq_1,q105R1.eq_1,q105R2.eq_1,q105R3.eq_1,q105R4.eq_1,q105R5.eq_1,q105R6.eq_1,q105R7.eq_1,q105R8.eq_1,q105R9.eq_1,q105R10.eq_1,c_slices_EqualFunc_LTyped_LTyped_Typed_Typed.eq_1,c_slices_EqualFunc_LTyped_LTyped_Typed_Typed_L0.eq_1,h4,g1,g2,hw,hS,l1,l2]; tactic => (
        refine ih _ ?_
        (sym => simp [Qa,Qb,Qc,Qd,Qe,Qi,Qj,Qm,Qn,Qp,Qq,Qr,Qt,Qv,Q4,Q5,Xa,Xd,Xs,X5,Ya,Yr,Ys,Yu,Yy,Y9,Za,Zb,Zc,Zd,Ze,Zg,Zh,Zk,Zl,Zm,Zn,Zt,Zv,Zw,Zy,Z0,Z1,Z3,Jj,Jk,Jl,Jm,Jn,Jo,Jp,Jr,Js,Jt,Ju,Jv,J1,J2,Ue,Uf,Ug,Ul,Uw,Ux,U0,U4,U5,Va,Vb,Ve,Vi,Vk,Vm,Vo,Vq,Vr,Vt,Vv,Vw,Vy,Vz,V0,Hh,Hi,Hk,Hl,Ho,Hp,Hq,Hr,Hs,Ht,Hu,Hv,Hw,H0,H1,Ni,Nk,Nl,Nm,No,Nw,Nx,N0,Be])))
    | false =>
      rw [hx] at hS
      rw [Bool.false_and]
      refine ⟨[⟨3, 0, true, [pcell p[i]]⟩, ⟨3, 0, true, [pcell q[i]]⟩, ⟨3, 0, true, [pcell p[i]]⟩, ⟨3, 0, true, [pcell q[i]]⟩], fun st hst => ?_⟩
      unfold pcell
      rw [y_loop, hst, if_neg (by simp)]
      (sym => simp [Qa,Qb,Qc,Qd,Qe,Qi,Qj,Qm,Qn,Qp,Qq,Qr,Qt,Qv,Q4,Q5,Xa,Xd,Xs,X5,Ya,Yr,Ys,Yu,Yy,Y9,Za,Zb,Zc,Zd,Ze,Zg,Zh,Zk,Zl,Zm,Zn,Zt,Zv,Zw,Zy,Z0,Z1,Z3,Jj,Jk,Jl,Jm,Jn,Jo,Jp,Jr,Js,Jt,Ju,Jv,J1,J2,Ue,Uf,Ug,Ul,Uw,Ux,U0,U4,U5,Va,Vb,Ve,Vi,Vk,Vm,Vo,Vq,Vr,Vt,Vv,Vw,Vy,Vz,V0,Hh,Hi,Hk,Hl,Ho,Hp,Hq,Hr,Hs,Ht,Hu,Hv,Hw,H0,H1,Ni,Nk,Nl,Nm,No,Nw,Nx,N0,Be,q105R0.eq_1,q105R1.eq_1,q105R2.eq_1,q105R3.eq_1,q105R4.eq_1,q105R5.eq_1,q105R6.eq_1,q105R7.eq_1,q105R8.eq_1,q105R9.eq_1,q105R10.eq_1,c_slices_EqualFunc_LTyped_LTyped_Typed_Typed.eq_1,c_slices_EqualFunc_LTyped_LTyped_Typed_Typed_L0.eq_1,h4,g1,g2,hw,hS,l1,l2])
theorem eqQ_run (p q : List Pc) (b1 f1 b2 f2 : Bool) (hb : p.length < 1000000) (e0 e1 : List (List AV)) : ∃ e,
    aR G FT n_slices_EqualFunc_LTyped_LTyped_Typed_Typed [.data b1 3 (pcs p) f1, .data b2 3 (pcs q) f2, .fn (.func n_session_Same_1) [] []] [⟨33, 0, true, e0⟩, ⟨33, 0, true, e1⟩] = some (.bool (sameQ p q), ⟨33, 0, true, e0⟩ :: ⟨33, 0, true, e1⟩ :: e) := by
  have l1 := pcs_len p
  have l2 := pcs_len q
  rw [run_slices_EqualFunc_LTyped_LTyped_Typed_Typed]
  by_cases hl : p.length = q.length
  · obtain ⟨e, key⟩ := eqQ_loop G p q b1 f1 b2 f2 hl hb e0 e1 p.length 0 (by omega)
    simp only [List.drop_zero, Int.natCast_zero] at key
    have hl2 : ((p.length : Int) = q.length) ↔ True := by simp [hl]
    have key := key ⟨[(1, .data b2 3 (pcs q) f2), (2, .fn (.func n_session_Same_1) [] []), (15, .data b1 3 (pcs p) f1), (16, .int .i64 p.length), (17, .int .i64 0)], [⟨33, 0, true, e0⟩, ⟨33, 0, true, e1⟩]⟩ (by (sym => simp [Qb,Qc,Qd,Qe,Qi,Qj,Qr,Qt,Xa,Xy,X9,Yh,Y1,Y5,Y7,Y9,Za,Zb,Zc,Ze,Zg,Zh,Zi,Zj,Zk,Zl,Zm,Zn,Zr,Zs,Zt,Zu,Zv,Zw,Z3,Jj,Jk,Jl,Jn,Jp,Jq,Jr,Jv,Jx,Uw,Ux,U0,U4,U5,Va,Vb,Ve,Vi,Vk,Vm,Vo,Vq,Vr,Vt,Vv,Vw,Vy,Vz,V0,Ho,Hq,Hu,Hv,Hw,H0,H1,Nl,Nm,No,Nw,Nx,Be]))
    cases hq : sameQ p q with
    | true =>
      rw [if_pos hq] at key
      refine ⟨[], ?_⟩
      (sym => simp [Qb,Qc,Qd,Qe,Qi,Qj,Qr,Qt,Xa,Xy,X9,Yh,Y1,Y5,Y7,Y9,Za,Zb,Zc,Ze,Zg,Zh,Zi,Zj,Zk,Zl,Zm,Zn,Zr,Zs,Zt,Zu,Zv,Zw,Z3,Jj,Jk,Jl,Jn,Jp,Jq,Jr,Jv,Jx,Uw,Ux,U0,U4,U5,Va,Vb,Ve,Vi,Vk,Vm,Vo,Vq,Vr,Vt,Vv,Vw,Vy,Vz,V0,Ho,Hq,Hu,Hv,Hw,H0,H1,Nl,Nm,No,Nw,Nx,Be,q105R0.eq_1,q105R1.eq_1,q105R2.eq_1,q105R3.eq_1,q105R4.eq_1,q105R5.eq_1,q105R6.eq_1,q105R7.eq_1,q105R8.eq_1,q105R9.eq_1,q105R10.eq_1,c_slices_EqualFunc_LTyped_LTyped_Typed_Typed.eq_1,key,l1,l2,hl2])
    | false =>
      rw [if_neg (by simp [hq])] at key
      refine ⟨e, ?_⟩
      (sym => simp [Qb,Qc,Qd,Qe,Qi,Qj,Qr,Qt,Xa,Xy,X9,Yh,Y1,Y5,Y7,Y9,Za,Zb,Zc,Ze,Zg,Zh,Zi,Zj,Zk,Zl,Zm,Zn,Zr,Zs,Zt,Zu,Zv,Zw,Z3,Jj,Jk,Jl,Jn,Jp,Jq,Jr,Jv,Jx,Uw,Ux,U0,U4,U5,Va,Vb,Ve,Vi,Vk,Vm,Vo,Vq,Vr,Vt,Vv,Vw,Vy,Vz,V0,Ho,Hq,Hu,Hv,Hw,H0,H1,Nl,Nm,No,Nw,Nx,Be,q105R0.eq_1,q105R1.eq_1,q105R2.eq_1,q105R3.eq_1,q105R4.eq_1,q105R5.eq_1,q105R6.eq_1,q105R7.eq_1,q105R8.eq_1,q105R9.eq_1,q105R10.eq_1,c_slices_EqualFunc_LTyped_LTyped_Typed_Typed.eq_1,key,l1,l2,hl2])
  · have hd : sameQ p q = false := by
      cases h : sameQ p q with
      | false => rfl
      | true => exact absurd (sameQ_len h) hl
    rw [hd]
    have hl2 : ¬ ((p.length : Int) = q.length) := by omega
    refine ⟨[], ?_⟩
    (sym => simp [Qb,Qc,Qd,Qe,Qi,Qj,Qr,Qt,Xa,Xy,X9,Yh,Y1,Y5,Y7,Y9,Za,Zb,Zc,Ze,Zg,Zh,Zi,Zj,Zk,Zl,Zm,Zn,Zr,Zs,Zt,Zu,Zv,Zw,Z3,Jj,Jk,Jl,Jn,Jp,Jq,Jr,Jv,Jx,Uw,Ux,U0,U4,U5,Va,Vb,Ve,Vi,Vk,Vm,Vo,Vq,Vr,Vt,Vv,Vw,Vy,Vz,V0,Ho,Hq,Hu,Hv,Hw,H0,H1,Nl,Nm,No,Nw,Nx,Be,q105R0.eq_1,q105R1.eq_1,q105R2.eq_1,q105R3.eq_1,q105R4.eq_1,q105R5.eq_1,q105R6.eq_1,q105R7.eq_1,q105R8.eq_1,q105R9.eq_1,q105R10.eq_1,c_slices_EqualFunc_LTyped_LTyped_Typed_Typed.eq_1,l1,l2,hl2])
/-! ### Windows, counts -/
def wEq (w v : Nat → Int × Int) : Bool := (eqCells [.ki, .ki, .ki, .ki, .ki, .ki, .ki, .ki, .ki, .ki, .ki, .ki, .ki, .ki, .ki, .ki, .ki, .ki] (cellsW w) (cellsW v)).getD false
def kEq (k l : Nat → Int) : Bool := (eqCells [.ki, .ki, .ki, .ki, .ki, .ki, .ki, .ki, .ki] (cellsK k) (cellsK l)).getD false
theorem wEq_eq (w v : Nat → Int × Int) : eqCells [.ki, .ki, .ki, .ki, .ki, .ki, .ki, .ki, .ki, .ki, .ki, .ki, .ki, .ki, .ki, .ki, .ki, .ki] (cellsW w) (cellsW v) = some (wEq w v) := by
  simp [wEq, cellsW, eqCells, eqLeaf]
theorem kEq_eq (k l : Nat → Int) : eqCells [.ki, .ki, .ki, .ki, .ki, .ki, .ki, .ki, .ki] (cellsK k) (cellsK l) = some (kEq k l) := by
  simp [kEq, cellsK, eqCells, eqLeaf]
theorem wEq_self {w v : Nat → Int × Int} (h : ∀ j, j < 9 → w j = v j) : wEq w v = true := by
  simp [wEq, cellsW, eqCells, eqLeaf, h]
theorem kEq_self {k l : Nat → Int} (h : ∀ j, j < 9 → k j = l j) : kEq k l = true := by
  simp [kEq, cellsK, eqCells, eqLeaf, h]
/-- Are two sessions the same? -/
def sameS (a b : Ses) : Bool :=
  decide (a.mem = b.mem) && decide (a.h = b.h) && decide (a.tq = b.tq) && sameQ a.q b.q && wEq a.w b.w && decide (a.r = b.r) && decide (a.c = b.c) && kEq a.k b.k
theorem same30_P (a b : Ses) (h : okS a) : aP G FT n_session_Same [.agg (sC a), .agg (sC b)] = some (.bool (sameS a b)) := by
  have hM := fun b1 f1 b2 f2 => eqM_P G a.mem b.mem b1 f1 b2 f2 (by have := h.1; omega)
  have hI := fun b1 f1 b2 f2 => eqI_P G a.tq b.tq b1 f1 b2 f2 (by have := h.2.1; omega)
  obtain ⟨e, hQ⟩ := eqQ_run G a.q b.q false a.f3 false b.f3 (by have := h.2.2.1; omega) [sC a] [sC b]
  have hW := wEq_eq a.w b.w
  have hK := kEq_eq a.k b.k
  have a0 := sC_0 a
  have a1 := sC_1 a
  have a2 := sC_2 a
  have a3 := sC_3 a
  have a4 := sC_w a
  have a5 := sC_k a
  have a6 := sC_22 a
  have a7 := sC_23 a
  have a8 := sC_len a
  have a9 := sC_st a
  have b0 := sC_0 b
  have b1 := sC_1 b
  have b2 := sC_2 b
  have b3 := sC_3 b
  have b4 := sC_w b
  have b5 := sC_k b
  have b6 := sC_22 b
  have b7 := sC_23 b
  have b8 := sC_len b
  have b9 := sC_st b
  unfold aP sameS
  rw [run_session_Same]
  generalize sC a = sca at *
  generalize sC b = scb at *
  generalize cellsW a.w = cwa at *
  generalize cellsW b.w = cwb at *
  generalize cellsK a.k = cka at *
  generalize cellsK b.k = ckb at *
  cases h1 : decide (a.mem = b.mem) with
  | false =>
    simp only [h1, Bool.false_and]
    (sym => simp [Qb,Qd,Qe,Qf,Qg,Qi,Qj,Ql,Qm,Qn,Qo,Qr,Qt,Qu,Qw,Q4,Xa,Xb,Xp,X8,Yj,Yr,Yt,Yu,Yv,Y1,Y5,Y7,Y9,Za,Zb,Zc,Ze,Zg,Zh,Zi,Zj,Zk,Zl,Zm,Zn,Zo,Zq,Zr,Zs,Zt,Zu,Zv,Zw,Zy,Z0,Z3,Ja,Jh,Jj,Jk,Jv,Jx,Km,V9,Wd,We,Wk,Hh,Hi,Hu,Hv,Nl,Nm,Be,q74R0.eq_1,q74R1.eq_1,q74R2.eq_1,c_session_Same.eq_1,hM,h1,a0,a8,a9,b0,b8,b9])
  | true =>
  by_cases h2n : ¬ a.h = b.h
  · have h2 := h2n
    have h2' : decide (a.h = b.h) = false := by simp [h2]
    simp only [h2', Bool.true_and, Bool.false_and]
    (sym => simp [Qb,Qd,Qe,Qf,Qg,Qi,Qj,Ql,Qm,Qn,Qo,Qr,Qt,Qu,Qw,Q4,Xa,Xb,Xp,X8,Yj,Yr,Yt,Yu,Yv,Y1,Y5,Y7,Y9,Za,Zb,Zc,Ze,Zg,Zh,Zi,Zj,Zk,Zl,Zm,Zn,Zo,Zq,Zr,Zs,Zt,Zu,Zv,Zw,Zy,Z0,Z3,Ja,Jh,Jj,Jk,Jv,Jx,Km,V9,Wd,We,Wk,Hh,Hi,Hu,Hv,Nl,Nm,Be,q74R0.eq_1,q74R1.eq_1,q74R2.eq_1,c_session_Same.eq_1,hM,h1,h2,a0,a1,a8,a9,b0,b1,b8,b9])
  have h2 := Decidable.not_not.1 h2n
  have h2' : decide (a.h = b.h) = true := by simp [h2]
  cases h3 : decide (a.tq = b.tq) with
  | false =>
    simp only [h2', Bool.true_and, Bool.false_and]
    (sym => simp [Qb,Qd,Qe,Qf,Qg,Qi,Qj,Ql,Qm,Qn,Qo,Qr,Qt,Qu,Qw,Q4,Xa,Xb,Xp,X8,Yj,Yr,Yt,Yu,Yv,Y1,Y5,Y7,Y9,Za,Zb,Zc,Ze,Zg,Zh,Zi,Zj,Zk,Zl,Zm,Zn,Zo,Zq,Zr,Zs,Zt,Zu,Zv,Zw,Zy,Z0,Z3,Ja,Jh,Jj,Jk,Jv,Jx,Km,V9,Wd,We,Wk,Hh,Hi,Hu,Hv,Nl,Nm,Be,q74R0.eq_1,q74R1.eq_1,q74R2.eq_1,c_session_Same.eq_1,hM,hI,h1,h2,h3,a0,a1,a2,a8,a9,b0,b1,b2,b8,b9])
  | true =>
  cases h4 : sameQ a.q b.q with
  | false =>
    simp only [h2', Bool.true_and, Bool.false_and]
    (sym => simp [Qb,Qd,Qe,Qf,Qg,Qi,Qj,Ql,Qm,Qn,Qo,Qr,Qt,Qu,Qw,Q4,Xa,Xb,Xp,X8,Yj,Yr,Yt,Yu,Yv,Y1,Y5,Y7,Y9,Za,Zb,Zc,Ze,Zg,Zh,Zi,Zj,Zk,Zl,Zm,Zn,Zo,Zq,Zr,Zs,Zt,Zu,Zv,Zw,Zy,Z0,Z3,Ja,Jh,Jj,Jk,Jv,Jx,Km,V9,Wd,We,Wk,Hh,Hi,Hu,Hv,Nl,Nm,Be,q74R0.eq_1,q74R1.eq_1,q74R2.eq_1,c_session_Same.eq_1,hM,hI,hQ,h1,h2,h3,h4,a0,a1,a2,a3,a8,a9,b0,b1,b2,b3,b8,b9])
  | true =>
  cases h5 : wEq a.w b.w with
  | false =>
    simp only [h2', Bool.true_and, Bool.false_and]
    (sym => simp [Qb,Qd,Qe,Qf,Qg,Qi,Qj,Ql,Qm,Qn,Qo,Qr,Qt,Qu,Qw,Q4,Xa,Xb,Xp,X8,Yj,Yr,Yt,Yu,Yv,Y1,Y5,Y7,Y9,Za,Zb,Zc,Ze,Zg,Zh,Zi,Zj,Zk,Zl,Zm,Zn,Zo,Zq,Zr,Zs,Zt,Zu,Zv,Zw,Zy,Z0,Z3,Ja,Jh,Jj,Jk,Jv,Jx,Km,V9,Wd,We,Wk,Hh,Hi,Hu,Hv,Nl,Nm,Be,q74R0.eq_1,q74R1.eq_1,q74R2.eq_1,c_session_Same.eq_1,hM,hI,hQ,hW,h1,h2,h3,h4,h5,a0,a1,a2,a3,a4,a8,a9,b0,b1,b2,b3,b4,b8,b9])
  | true =>
  by_cases h6n : ¬ a.r = b.r
  · have h6 := h6n
    have h6' : decide (a.r = b.r) = false := by simp [h6]
    simp only [h2', h6', Bool.true_and, Bool.false_and]
    (sym => simp [Qb,Qd,Qe,Qf,Qg,Qi,Qj,Ql,Qm,Qn,Qo,Qr,Qt,Qu,Qw,Q4,Xa,Xb,Xp,X8,Yj,Yr,Yt,Yu,Yv,Y1,Y5,Y7,Y9,Za,Zb,Zc,Ze,Zg,Zh,Zi,Zj,Zk,Zl,Zm,Zn,Zo,Zq,Zr,Zs,Zt,Zu,Zv,Zw,Zy,Z0,Z3,Ja,Jh,Jj,Jk,Jv,Jx,Km,V9,Wd,We,Wk,Hh,Hi,Hu,Hv,Nl,Nm,Be,q74R0.eq_1,q74R1.eq_1,q74R2.eq_1,c_session_Same.eq_1,hM,hI,hQ,hW,h1,h2,h3,h4,h5,h6,a0,a1,a2,a3,a4,a6,a8,a9,b0,b1,b2,b3,b4,b6,b8,b9])
  have h6 := Decidable.not_not.1 h6n
  have h6' : decide (a.r = b.r) = true := by simp [h6]
  by_cases h7n : ¬ a.c = b.c
  · have h7 := h7n
    have h7' : decide (a.c = b.c) = false := by simp [h7]
    simp only [h2', h6', h7', Bool.true_and, Bool.false_and]
    (sym => simp [Qb,Qd,Qe,Qf,Qg,Qi,Qj,Ql,Qm,Qn,Qo,Qr,Qt,Qu,Qw,Q4,Xa,Xb,Xp,X8,Yj,Yr,Yt,Yu,Yv,Y1,Y5,Y7,Y9,Za,Zb,Zc,Ze,Zg,Zh,Zi,Zj,Zk,Zl,Zm,Zn,Zo,Zq,Zr,Zs,Zt,Zu,Zv,Zw,Zy,Z0,Z3,Ja,Jh,Jj,Jk,Jv,Jx,Km,V9,Wd,We,Wk,Hh,Hi,Hu,Hv,Nl,Nm,Be,q74R0.eq_1,q74R1.eq_1,q74R2.eq_1,c_session_Same.eq_1,hM,hI,hQ,hW,h1,h2,h3,h4,h5,h6,h7,a0,a1,a2,a3,a4,a6,a7,a8,a9,b0,b1,b2,b3,b4,b6,b7,b8,b9])
  have h7 := Decidable.not_not.1 h7n
  have h7' : decide (a.c = b.c) = true := by simp [h7]
  simp only [h2', h6', h7', Bool.true_and]
  (sym => simp [Qb,Qd,Qe,Qf,Qg,Qi,Qj,Ql,Qm,Qn,Qo,Qr,Qt,Qu,Qw,Q4,Xa,Xb,Xp,X8,Yj,Yr,Yt,Yu,Yv,Y1,Y5,Y7,Y9,Za,Zb,Zc,Ze,Zg,Zh,Zi,Zj,Zk,Zl,Zm,Zn,Zo,Zq,Zr,Zs,Zt,Zu,Zv,Zw,Zy,Z0,Z3,Ja,Jh,Jj,Jk,Jv,Jx,Km,V9,Wd,We,Wk,Hh,Hi,Hu,Hv,Nl,Nm,Be,q74R0.eq_1,q74R1.eq_1,q74R2.eq_1,c_session_Same.eq_1,hM,hI,hQ,hW,hK,h1,h2,h3,h4,h5,h6,h7,a0,a1,a2,a3,a4,a5,a6,a7,a8,a9,b0,b1,b2,b3,b4,b5,b6,b7,b8,b9])
end Go.Proofs.YthcnhibjddomdaaGreat
