/- The document's queues: Same, Copy. Conditions: as each statement says. -/
import Derived.Test.YtfnonledcniojaaMg2
set_option linter.unusedVariables false
set_option linter.unusedSimpArgs false
set_option linter.unusedSectionVars false
set_option maxRecDepth 20000
set_option maxHeartbeats 8000000
namespace Go.Proofs.Ytfnonledcniojaa
open Go
variable (G : Nat → Option (List AV))
def bso (l : List Int) : List UInt8 := l.map fun x => UInt8.ofNat x.toNat
theorem asb_bso : ∀ l : List Int, asBytes (byt l) = some (bso l)
  | [] => rfl
  | x :: l => by
    have := asb_bso l
    unfold byt bso at *
    rw [List.map_cons, asBytes, this]; rfl
def bEq (a b : List Int) : Bool := (⟨(bso a).toArray⟩ : ByteArray) == ⟨(bso b).toArray⟩
theorem bEq_self (a : List Int) : bEq a a = true := by
  show ((bso a).toArray == (bso a).toArray) = true
  simp
def sameP (x y : Pc) : Bool := decide (x.1 = y.1) && decide (x.2.1 = y.2.1) && bEq x.2.2.1 y.2.2.1
def sameQ : List Pc → List Pc → Bool
  | [], [] => true
  | x :: p, y :: q => sameP x y && sameQ p q
  | _, _ => false
theorem sameQ_len : ∀ {p q : List Pc}, sameQ p q = true → p.length = q.length
  | [], [], _ => rfl
  | x :: p, y :: q, h => by
    rw [sameQ, Bool.and_eq_true] at h
    rw [List.length_cons, List.length_cons, sameQ_len h.2]
  | [], _ :: _, h => by simp [sameQ] at h
  | _ :: _, [], h => by simp [sameQ] at h
theorem rsame28_loop (p q : List Pc) (b1 f1 b2 f2 : Bool) (hl : p.length = q.length) (hb : p.length ≤ 1000) : ∀ (m i : Nat), i + m = p.length →
    aE G FT 0 lp_ref28_Same_0 ⟨[(0, .data b1 3 (pcs p) f1), (1, .data b2 3 (pcs q) f2), (5, .int .i64 i)], []⟩ =
      if sameQ (p.drop i) (q.drop i) = true then some (.exit 0, ⟨[(0, .data b1 3 (pcs p) f1), (1, .data b2 3 (pcs q) f2), (5, .int .i64 p.length), (14, .bool false)], []⟩) else some (.ret, ⟨[(4, .bool false)], []⟩) := by
  have l1 := pcs_len p
  have l2 := pcs_len q
  intro m
  induction m with
  | zero =>
    intro i hi
    obtain rfl : i = p.length := by omega
    rw [lp_ref28_Same_0, y_loop, if_pos (by rw [List.drop_length, hl, List.drop_length]; rfl)]
    have h4 : ¬ (p.length : Int) < p.length := by omega
    (sym => simp [Qa,Qb,Qc,Qd,Qe,Qf,Qg,Qi,Qj,Qr,Qt,Qu,Q4,Xa,Xb,Xi,Xp,Xs,Xy,X5,X9,Ya,Yh,Ys,Yt,Yw,Yy,Y3,Y9,Za,Zb,Zc,Ze,Zg,Zh,Zk,Zl,Zt,Zv,Zw,Z3,Jb,Jg,Jj,Jk,Jl,Jm,Jn,Jo,Jp,Jr,Js,Jt,Ju,Jv,Kj,Kn,Ux,U0,U4,U5,Vb,Ve,Vo,Vq,Vr,Vt,Vv,Vw,Vy,Vz,V0,Hf,Hh,Hq,Hr,Hs,Hw,H1,Ni,Nk,Nl,Nm,No,Ns,Nw,Nx,Be,Ma,Mb,Md,Me,Mf,Mk,q49R0.eq_1,q49R1.eq_1,q49R2.eq_1,q49R3.eq_1,q49R4.eq_1,q49R6.eq_1,q49R7.eq_1,q49R5.eq_1,q49R8.eq_1,c_ref28_Same.eq_1,c_ref28_Same_L0.eq_1,h4,l1])
  | succ m ih =>
    intro i hi
    have ih := ih (i + 1) (by omega)
    have hlt : i < p.length := by omega
    have hlt2 : i < q.length := by omega
    have h4 : (i : Int) < p.length := by omega
    have g1 := pcs_at hlt
    have g2 := pcs_at hlt2
    have d1 : p.drop i = p[i] :: p.drop (i + 1) := List.drop_eq_getElem_cons hlt
    have d2 : q.drop i = q[i] :: q.drop (i + 1) := List.drop_eq_getElem_cons hlt2
    have hw := wrap_nat (n := i) (by omega)
    rw [lp_ref28_Same_0] at ih
    rw [lp_ref28_Same_0, y_loop, d1, d2, sameQ]
    have b3 := asb_bso p[i].2.2.1
    have b4 := asb_bso q[i].2.2.1
    have hB : ((⟨⟨bso p[i].2.2.1⟩⟩ : ByteArray) == ⟨⟨bso q[i].2.2.1⟩⟩) = bEq p[i].2.2.1 q[i].2.2.1 := rfl
    have hS : sameP p[i] q[i] = (decide (p[i].1 = q[i].1) && decide (p[i].2.1 = q[i].2.1) && bEq p[i].2.2.1 q[i].2.2.1) := rfl
    rw [hS]
    generalize p[i] = x at *
    generalize q[i] = y at *
    generalize bEq x.2.2.1 y.2.2.1 = B0 at *
    by_cases h1 : x.1 = y.1
    · by_cases h2 : x.2.1 = y.2.1
      · cases B0 with
        | true =>
          rw [decide_eq_true h1, decide_eq_true h2, Bool.true_and, Bool.true_and, Bool.true_and, ← ih]
          (sym => simp [Qa,Qb,Qc,Qd,Qe,Qf,Qg,Qi,Qj,Qr,Qt,Qu,Q4,Xa,Xb,Xi,Xp,Xs,Xy,X5,X9,Ya,Yh,Ys,Yt,Yw,Yy,Y3,Y9,Za,Zb,Zc,Ze,Zg,Zh,Zk,Zl,Zt,Zv,Zw,Z3,Jb,Jg,Jj,Jk,Jl,Jm,Jn,Jo,Jp,Jr,Js,Jt,Ju,Jv,Kj,Kn,Ux,U0,U4,U5,Vb,Ve,Vo,Vq,Vr,Vt,Vv,Vw,Vy,Vz,V0,Hf,Hh,Hq,Hr,Hs,Hw,H1,Ni,Nk,Nl,Nm,No,Ns,Nw,Nx,Be,Ma,Mb,Md,Me,Mf,Mk,q49R0.eq_1,q49R1.eq_1,q49R2.eq_1,q49R3.eq_1,q49R4.eq_1,q49R6.eq_1,q49R7.eq_1,q49R5.eq_1,q49R8.eq_1,c_ref28_Same.eq_1,c_ref28_Same_L0.eq_1,h4,l1,g1,g2,hw,h1,h2,b3,b4,hB])
        | false =>
          rw [Bool.and_false, Bool.false_and, if_neg (by simp)]
          (sym => simp [Qa,Qb,Qc,Qd,Qe,Qf,Qg,Qi,Qj,Qr,Qt,Qu,Q4,Xa,Xb,Xi,Xp,Xs,Xy,X5,X9,Ya,Yh,Ys,Yt,Yw,Yy,Y3,Y9,Za,Zb,Zc,Ze,Zg,Zh,Zk,Zl,Zt,Zv,Zw,Z3,Jb,Jg,Jj,Jk,Jl,Jm,Jn,Jo,Jp,Jr,Js,Jt,Ju,Jv,Kj,Kn,Ux,U0,U4,U5,Vb,Ve,Vo,Vq,Vr,Vt,Vv,Vw,Vy,Vz,V0,Hf,Hh,Hq,Hr,Hs,Hw,H1,Ni,Nk,Nl,Nm,No,Ns,Nw,Nx,Be,Ma,Mb,Md,Me,Mf,Mk,q49R0.eq_1,q49R1.eq_1,q49R2.eq_1,q49R3.eq_1,q49R4.eq_1,q49R6.eq_1,q49R7.eq_1,q49R5.eq_1,q49R8.eq_1,c_ref28_Same.eq_1,c_ref28_Same_L0.eq_1,h4,l1,g1,g2,hw,h1,h2,b3,b4,hB])
      · rw [decide_eq_false h2, Bool.and_false, Bool.false_and, Bool.false_and, if_neg (by simp)]
        (sym => simp [Qa,Qb,Qc,Qd,Qe,Qf,Qg,Qi,Qj,Qr,Qt,Qu,Q4,Xa,Xb,Xi,Xp,Xs,Xy,X5,X9,Ya,Yh,Ys,Yt,Yw,Yy,Y3,Y9,Za,Zb,Zc,Ze,Zg,Zh,Zk,Zl,Zt,Zv,Zw,Z3,Jb,Jg,Jj,Jk,Jl,Jm,Jn,Jo,Jp,Jr,Js,Jt,Ju,Jv,Kj,Kn,Ux,U0,U4,U5,Vb,Ve,Vo,Vq,Vr,Vt,Vv,Vw,Vy,Vz,V0,Hf,Hh,Hq,Hr,Hs,Hw,H1,Ni,Nk,Nl,Nm,No,Ns,Nw,Nx,Be,Ma,Mb,Md,Me,Mf,Mk,q49R0.eq_1,q49R1.eq_1,q49R2.eq_1,q49R3.eq_1,q49R4.eq_1,q49R6.eq_1,q49R7.eq_1,q49R5.eq_1,q49R8.eq_1,c_ref28_Same.eq_1,c_ref28_Same_L0.eq_1,h4,l1,g1,g2,hw,h1,h2])
    · rw [decide_eq_false h1, Bool.false_and, Bool.false_and, Bool.false_and, if_neg (by simp)]
      (sym => simp [Qa,Qb,Qc,Qd,Qe,Qf,Qg,Qi,Qj,Qr,Qt,Qu,Q4,Xa,Xb,Xi,Xp,Xs,Xy,X5,X9,Ya,Yh,Ys,Yt,Yw,Yy,Y3,Y9,Za,Zb,Zc,Ze,Zg,Zh,Zk,Zl,Zt,Zv,Zw,Z3,Jb,Jg,Jj,Jk,Jl,Jm,Jn,Jo,Jp,Jr,Js,Jt,Ju,Jv,Kj,Kn,Ux,U0,U4,U5,Vb,Ve,Vo,Vq,Vr,Vt,Vv,Vw,Vy,Vz,V0,Hf,Hh,Hq,Hr,Hs,Hw,H1,Ni,Nk,Nl,Nm,No,Ns,Nw,Nx,Be,Ma,Mb,Md,Me,Mf,Mk,q49R0.eq_1,q49R1.eq_1,q49R2.eq_1,q49R3.eq_1,q49R4.eq_1,q49R6.eq_1,q49R7.eq_1,q49R5.eq_1,q49R8.eq_1,c_ref28_Same.eq_1,c_ref28_Same_L0.eq_1,h4,l1,g1,g2,hw,h1])
theorem rsame28_P (p q : List Pc) (b1 f1 b2 f2 : Bool) (hb : p.length ≤ 1000) : aP G FT n_ref28_Same [.data b1 3 (pcs p) f1, .data b2 3 (pcs q) f2] = some (.bool (sameQ p q)) := by
  have l1 := pcs_len p
  have l2 := pcs_len q
  unfold aP
  rw [run_ref28_Same]
  by_cases hl : p.length = q.length
  · have key := rsame28_loop G p q b1 f1 b2 f2 hl hb p.length 0 (by omega)
    simp only [List.drop_zero, Int.natCast_zero] at key
    have hl2 : ((p.length : Int) = q.length) ↔ True := by simp [hl]
    cases hq : sameQ p q with
    | true => rw [if_pos hq] at key; (sym => simp [Qb,Qc,Qd,Qe,Qi,Qj,Qr,Qt,Xa,Xy,X9,Yh,Y1,Y5,Y7,Y9,Za,Zb,Zc,Ze,Zg,Zh,Zi,Zj,Zk,Zl,Zm,Zr,Zs,Zt,Zu,Zv,Zw,Z3,Jj,Jk,Jl,Jn,Jp,Jq,Jr,Jv,Jx,Wk,Nl,Nm,Nw,Nx,Be,q49R0.eq_1,q49R1.eq_1,q49R2.eq_1,q49R3.eq_1,q49R4.eq_1,q49R6.eq_1,q49R7.eq_1,q49R5.eq_1,q49R8.eq_1,c_ref28_Same.eq_1,key,l1,l2,hl2])
    | false => rw [if_neg (by simp [hq])] at key; (sym => simp [Qb,Qc,Qd,Qe,Qi,Qj,Qr,Qt,Xa,Xy,X9,Yh,Y1,Y5,Y7,Y9,Za,Zb,Zc,Ze,Zg,Zh,Zi,Zj,Zk,Zl,Zm,Zr,Zs,Zt,Zu,Zv,Zw,Z3,Jj,Jk,Jl,Jn,Jp,Jq,Jr,Jv,Jx,Wk,Nl,Nm,Nw,Nx,Be,q49R0.eq_1,q49R1.eq_1,q49R2.eq_1,q49R3.eq_1,q49R4.eq_1,q49R6.eq_1,q49R7.eq_1,q49R5.eq_1,q49R8.eq_1,c_ref28_Same.eq_1,key,l1,l2,hl2])
  · have hd : sameQ p q = false := by
      cases h : sameQ p q with
      | false => rfl
      | true => exact absurd (sameQ_len h) hl
    rw [hd]
    have hl2 : ¬ ((p.length : Int) = q.length) := by omega
    (sym => simp [Qb,Qc,Qd,Qe,Qi,Qj,Qr,Qt,Xa,Xy,X9,Yh,Y1,Y5,Y7,Y9,Za,Zb,Zc,Ze,Zg,Zh,Zi,Zj,Zk,Zl,Zm,Zr,Zs,Zt,Zu,Zv,Zw,Z3,Jj,Jk,Jl,Jn,Jp,Jq,Jr,Jv,Jx,Wk,Nl,Nm,Nw,Nx,Be,q49R0.eq_1,q49R1.eq_1,q49R2.eq_1,q49R3.eq_1,q49R4.eq_1,q49R6.eq_1,q49R7.eq_1,q49R5.eq_1,q49R8.eq_1,c_ref28_Same.eq_1,l1,l2,hl2])
theorem rcopy_loop (q : List Pc) (b f : Bool) (h : okL q) : ∀ (m i : Nat), i + m = q.length → ∀ st, agc 0 [0, 3, 4] st = some ⟨[(0, .data b 3 (pcs q) f), (3, .own 0 0 0 i i), (4, .int .i64 i)], [⟨3, 0, true, pcs (cpQ (q.take i))⟩]⟩ →
    aE G FT 0 lp_ref28_Copy_0 st = some (.exit 0, ⟨[(0, .data b 3 (pcs q) f), (3, .own 0 0 0 q.length q.length), (4, .int .i64 q.length), (9, .bool false)], [⟨3, 0, true, pcs (cpQ q)⟩]⟩) := by
  have hln := pcs_len q
  intro m
  induction m with
  | zero =>
    intro i hi st hst
    rw [lp_ref28_Copy_0, y_loop, hst]
    obtain rfl : i = q.length := by omega
    rw [List.take_length]
    have e0 : decide ((q.length : Int) < q.length) = false := by simp
    (sym => simp [Qa,Qc,Qd,Qe,Qi,Qj,Qr,Qt,Qv,Qz,Q0,Q2,Q3,Q4,Q5,Xa,Xp,Xs,Xy,X0,X1,X5,Ya,Yh,Yj,Yr,Ys,Yt,Yu,Yv,Yy,Y2,Y3,Y9,Za,Zb,Zc,Zd,Ze,Zg,Zh,Zk,Zl,Zm,Zn,Zt,Zv,Zw,Zx,Zy,Zz,Z0,Z1,Z3,Jj,Jk,Jm,Jn,Jo,Jr,Js,Ju,Jv,J1,J2,J6,Kv,Kx,Ky,Ua,Ub,Uc,Ud,Ue,Uf,Ug,Ul,Us,Ux,U0,U4,U5,U6,Vb,Ve,Vk,Vm,Vo,Vp,Vq,Vr,Vs,Vt,Vu,Vv,Vw,Vx,Vy,Vz,V0,Hh,Hi,Hk,Hl,Ho,Hp,Hq,Hr,Hs,Ht,Hu,Hv,Hw,H1,H2,H3,H5,H6,H8,Nc,Ng,Nh,Ni,Nk,Nl,Nn,No,Np,Ns,Nx,Nz,N0,N2,Be,Bg,Ma,Mb,Md,Me,Mf,Mk,q44R0.eq_1,q44R1.eq_1,q44R2.eq_1,q44R3.eq_1,q44R5.eq_1,q44R6.eq_1,q44R7.eq_1,q44R4.eq_1,q44R8.eq_1,c_ref28_Copy.eq_1,c_ref28_Copy_L0.eq_1,e0,hln])
  | succ m ih =>
    intro i hi st hst
    have hlt : i < q.length := by omega
    have hlt' : (i : Int) < q.length := by omega
    have hw := wrap_nat (n := i) (by have := h.1; omega)
    have hg := pcs_at hlt
    have hbl := byt_len q[i].2.2.1
    have ih := ih (i + 1) (by omega)
    have e : pcs (cpQ (q.take (i + 1))) = pcs (cpQ (q.take i)) ++ [[.int .i64 q[i].1, .int .i64 q[i].2.1, .data false 1 (byt q[i].2.2.1) false]] := by
      have e1 : q.take (i + 1) = q.take i ++ [q[i]] := by rw [List.take_add_one, List.getElem?_eq_getElem hlt]; rfl
      rw [e1, cpQ, List.map_append, pcs_append]; rfl
    rw [e] at ih
    rw [lp_ref28_Copy_0] at ih
    rw [lp_ref28_Copy_0, y_loop, hst]
    have hlo : (pcs (cpQ (q.take i))).length = i := by rw [pcs_len, cpQ_len, List.length_take]; omega
    have b1 : (i + 1) * 40 ≤ 140737488355328 := by have := h.1; omega
    have b2 : q[i].2.2.1.length ≤ 140737488355328 := by have := h.2 q[i] (List.getElem_mem _); omega
    have b3 : q[i].2.2.1.length * 1 ≤ 140737488355328 := by omega
    have n1 : i + 1 ≤ i ↔ False := by simp
    have tk : List.take i (pcs (cpQ (q.take i))) = pcs (cpQ (q.take i)) := List.take_of_length_le (by omega)
    generalize pcs (cpQ (q.take i)) = P at ih hlo tk ⊢
    generalize pcs (cpQ q) = PQ at ih ⊢
    generalize q[i] = z at *
    (sym => simp [Qa,Qc,Qd,Qe,Qi,Qj,Qr,Qt,Qv,Qz,Q0,Q2,Q3,Q4,Q5,Xa,Xp,Xs,Xy,X0,X1,X5,Ya,Yh,Yj,Yr,Ys,Yt,Yu,Yv,Yy,Y2,Y3,Y9,Za,Zb,Zc,Zd,Ze,Zg,Zh,Zk,Zl,Zm,Zn,Zt,Zv,Zw,Zx,Zy,Zz,Z0,Z1,Z3,Jj,Jk,Jm,Jn,Jo,Jr,Js,Ju,Jv,J1,J2,J6,Kv,Kx,Ky,Ua,Ub,Uc,Ud,Ue,Uf,Ug,Ul,Us,Ux,U0,U4,U5,U6,Vb,Ve,Vk,Vm,Vo,Vp,Vq,Vr,Vs,Vt,Vu,Vv,Vw,Vx,Vy,Vz,V0,Hh,Hi,Hk,Hl,Ho,Hp,Hq,Hr,Hs,Ht,Hu,Hv,Hw,H1,H2,H3,H5,H6,H8,Nc,Ng,Nh,Ni,Nk,Nl,Nn,No,Np,Ns,Nx,Nz,N0,N2,Be,Bg,Ma,Mb,Md,Me,Mf,Mk,q44R0.eq_1,q44R1.eq_1,q44R2.eq_1,q44R3.eq_1,q44R5.eq_1,q44R6.eq_1,q44R7.eq_1,q44R4.eq_1,q44R8.eq_1,c_ref28_Copy.eq_1,c_ref28_Copy_L0.eq_1,hlt',hg,hbl,hlo,b1,b2,b3,n1,tk,hw,hln]; tactic => (
      refine ih _ ?_
      (sym => simp [Qa,Qc,Qd,Qe,Qi,Qj,Qr,Qt,Qv,Qz,Q0,Q2,Q3,Q4,Q5,Xa,Xp,Xs,Xy,X0,X1,X5,Ya,Yh,Yj,Yr,Ys,Yt,Yu,Yv,Yy,Y2,Y3,Y9,Za,Zb,Zc,Zd,Ze,Zg,Zh,Zk,Zl,Zm,Zn,Zt,Zv,Zw,Zx,Zy,Zz,Z0,Z1,Z3,Jj,Jk,Jm,Jn,Jo,Jr,Js,Ju,Jv,J1,J2,J6,Kv,Kx,Ky,Ua,Ub,Uc,Ud,Ue,Uf,Ug,Ul,Us,Ux,U0,U4,U5,U6,Vb,Ve,Vk,Vm,Vo,Vp,Vq,Vr,Vs,Vt,Vu,Vv,Vw,Vx,Vy,Vz,V0,Hh,Hi,Hk,Hl,Ho,Hp,Hq,Hr,Hs,Ht,Hu,Hv,Hw,H1,H2,H3,H5,H6,H8,Nc,Ng,Nh,Ni,Nk,Nl,Nn,No,Np,Ns,Nx,Nz,N0,N2,Be,Bg,Ma,Mb,Md,Me,Mf,Mk,hlo,tk])))
theorem rcopy_run (q : List Pc) (b f : Bool) (h : okL q) : aR G FT n_ref28_Copy [.data b 3 (pcs q) f] [] = some (.own 0 0 0 q.length q.length, [⟨3, 0, true, pcs (cpQ q)⟩]) := by
  have key := rcopy_loop G q b f h q.length 0 (by omega) ⟨[(0, .data b 3 (pcs q) f), (3, .own 0 0 0 0 0), (4, .int .i64 0)], [⟨3, 0, true, []⟩]⟩ (by
    simp only [Int.natCast_zero, List.take_zero, show pcs (cpQ []) = [] from rfl]
    (sym => simp [Qb,Qd,Qe,Qi,Qj,Qr,Qs,Y1,Y5,Y7,Y9,Za,Zb,Zc,Ze,Zg,Zh,Zi,Zj,Zk,Zl,Zm,Zn,Zr,Zs,Zt,Zu,Zv,Zw,Zx,Zy,Zz,Z0,Z3,Jj,Jk,Jn,Jq,Jv,Jx,Us,Ux,U0,U4,U5,U6,Vb,Ve,Vk,Vm,Vo,Vp,Vq,Vr,Vs,Vt,Vu,Vv,Vw,Vx,Vy,Vz,V0,Hh,Hp,Hv,Hw,H1,H5,H6,Nl,No,Nx,Be]))
  have hlo : (pcs (cpQ q)).length = q.length := by rw [pcs_len, cpQ_len]
  have tk : List.take q.length (pcs (cpQ q)) = pcs (cpQ q) := List.take_of_length_le (by omega)
  rw [run_ref28_Copy]
  (sym => simp [Qb,Qd,Qe,Qi,Qj,Qr,Qs,Y1,Y5,Y7,Y9,Za,Zb,Zc,Ze,Zg,Zh,Zi,Zj,Zk,Zl,Zm,Zn,Zr,Zs,Zt,Zu,Zv,Zw,Zx,Zy,Zz,Z0,Z3,Jj,Jk,Jn,Jq,Jv,Jx,Us,Ux,U0,U4,U5,U6,Vb,Ve,Vk,Vm,Vo,Vp,Vq,Vr,Vs,Vt,Vu,Vv,Vw,Vx,Vy,Vz,V0,Hh,Hp,Hv,Hw,H1,H5,H6,Nl,No,Nx,Be,q44R0.eq_1,q44R1.eq_1,q44R2.eq_1,q44R3.eq_1,q44R5.eq_1,q44R6.eq_1,q44R7.eq_1,q44R4.eq_1,q44R8.eq_1,c_ref28_Copy.eq_1,key,hlo,tk])
theorem rcopy_P (q : List Pc) (b f : Bool) (h : okL q) : aP G FT n_ref28_Copy [.data b 3 (pcs q) f] = some (.data false 3 (pcs (cpQ q)) false) := by
  have key := rcopy_loop G q b f h q.length 0 (by omega) ⟨[(0, .data b 3 (pcs q) f), (3, .own 0 0 0 0 0), (4, .int .i64 0)], [⟨3, 0, true, []⟩]⟩ (by
    simp only [Int.natCast_zero, List.take_zero, show pcs (cpQ []) = [] from rfl]
    (sym => simp [Qb,Qd,Qe,Qi,Qj,Qr,Qs,Y1,Y5,Y7,Y9,Za,Zb,Zc,Ze,Zg,Zh,Zi,Zj,Zk,Zl,Zm,Zn,Zr,Zs,Zt,Zu,Zv,Zw,Zx,Zy,Zz,Z0,Z3,Jj,Jk,Jn,Jq,Jv,Jx,Us,Ux,U0,U4,U5,U6,Vb,Ve,Vk,Vm,Vo,Vp,Vq,Vr,Vs,Vt,Vu,Vv,Vw,Vx,Vy,Vz,V0,Wf,Hh,Hp,Hs,Hv,Hw,H1,H5,H6,H8,Ng,Nl,No,Nx,Nz,Be]))
  have hlo : (pcs (cpQ q)).length = q.length := by rw [pcs_len, cpQ_len]
  have tk : List.take q.length (pcs (cpQ q)) = pcs (cpQ q) := List.take_of_length_le (by omega)
  unfold aP
  rw [run_ref28_Copy]
  (sym => simp [Qb,Qd,Qe,Qi,Qj,Qr,Qs,Y1,Y5,Y7,Y9,Za,Zb,Zc,Ze,Zg,Zh,Zi,Zj,Zk,Zl,Zm,Zn,Zr,Zs,Zt,Zu,Zv,Zw,Zx,Zy,Zz,Z0,Z3,Jj,Jk,Jn,Jq,Jv,Jx,Us,Ux,U0,U4,U5,U6,Vb,Ve,Vk,Vm,Vo,Vp,Vq,Vr,Vs,Vt,Vu,Vv,Vw,Vx,Vy,Vz,V0,Wf,Hh,Hp,Hs,Hv,Hw,H1,H5,H6,H8,Ng,Nl,No,Nx,Nz,Be,q44R0.eq_1,q44R1.eq_1,q44R2.eq_1,q44R3.eq_1,q44R5.eq_1,q44R6.eq_1,q44R7.eq_1,q44R4.eq_1,q44R8.eq_1,c_ref28_Copy.eq_1,key,hlo,tk])
end Go.Proofs.Ytfnonledcniojaa
