/- Queues: copied, Size, Push, Pop, Drop. Conditions: as each statement says. -/
import Derived.Test.YtfnonledcniojaaFn
import Derived.Test.YtfnonledcniojaaSzm
set_option linter.unusedVariables false
set_option linter.unusedSimpArgs false
set_option linter.unusedSectionVars false
set_option maxRecDepth 20000
set_option maxHeartbeats 1000000
namespace Go.Proofs.Ytfnonledcniojaa
open Go
variable (G : Nat → Option (List AV))
def okL (q : List Pc) : Prop := q.length ≤ 1000 ∧ ∀ x ∈ q, x.2.2.1.length ≤ 1000
theorem qmay_P (q : List Pc) (h : okL q) (b f : Bool) : aP G FT n_merge_May [.data b 3 (pcs q) f] = some (.bool (mayQ 0 q)) := may_any G FT rfl rfl q b f (by have := h.1; omega) (fun x hx => by have := h.2 x hx; omega)
theorem sizeQ_le : ∀ (q : List Pc), (∀ x ∈ q, x.2.2.1.length ≤ 1000) → sizeQ q ≤ q.length * 1000
  | [], _ => by simp [sizeQ]
  | x :: q, h => by
    have h1 := sizeQ_le q (fun y hy => h y (List.mem_cons_of_mem _ hy))
    have h2 := h x (List.mem_cons_self ..)
    have e : sizeQ (x :: q) = x.2.2.1.length + sizeQ q := by simp [sizeQ]
    rw [e, List.length_cons]; omega
theorem size_P (q : List Pc) (h : okL q) (b f : Bool) : aP G FT n_merge_Size [.data b 3 (pcs q) f] = some (.int .i64 (if mayQ 0 q = true then sizeQ q else 0)) := by
  have hx : aR G FT n_merge_Size [.data b 3 (pcs q) f] [] = extSize [.data b 3 (pcs q) f] [] := by
    unfold aR arunFn
    rfl
  unfold aP
  rw [hx]
  have hs := sizeQ_le q h.2
  have h1 := h.1
  have h2 : ∀ x ∈ q, x.2.2.1.length ≤ 1000000 := fun x hx => by have := h.2 x hx; omega
  simp only [extSize, mapM_of_pcs, Option.bind_some]
  rw [if_pos ⟨by omega, h2, by omega⟩]
  rfl
theorem bclone_P (l : List Int) (b f : Bool) (hl : l.length ≤ 1000000) : aP G FT n_bytes_Clone [.data b 1 (byt l) f] = some (.data false 1 (byt l) false) := by
  have hx : aR G FT n_bytes_Clone [.data b 1 (byt l) f] [] = extClone 1 [.data b 1 (byt l) f] [] := by
    unfold aR arunFn
    rfl
  have hln := byt_len l
  have tk : List.take l.length (byt l) = byt l := List.take_of_length_le (by omega)
  unfold aP
  rw [hx]
  simp only [extClone, hln]
  rw [if_pos ⟨trivial, hl, by simp [plain_byt]⟩]
  (sym => simp [Zg,Zv,Zw,Zx,Zy,Zz,Z0,Wf,Hh,Hs,H8,Ng,Nz,hln,tk])
/-- A copy. -/
def cp (x : Pc) : Pc := (x.1, x.2.1, x.2.2.1, false)
def cpQ (q : List Pc) : List Pc := q.map cp
theorem cpQ_len (q : List Pc) : (cpQ q).length = q.length := by simp [cpQ]
theorem pcs_nil : pcs [] = [] := rfl
theorem pcs_append (a b : List Pc) : pcs (a ++ b) = pcs a ++ pcs b := by simp [pcs]
theorem copied_loop (q : List Pc) (b f : Bool) (h : okL q) : ∀ (m i : Nat), i + m = q.length → ∀ st, agc 0 [3, 6, 7, 8] st = some ⟨[(3, .own 0 0 0 i i), (6, .data b 3 (pcs q) f), (7, .int .i64 q.length), (8, .int .i64 i)], [⟨3, 0, true, pcs (cpQ (q.take i))⟩]⟩ →
    aE G FT 0 lp_merge_copied_0 st = some (.exit 0, ⟨[(3, .own 0 0 0 q.length q.length), (6, .data b 3 (pcs q) f), (7, .int .i64 q.length), (8, .int .i64 q.length), (9, .bool false)], [⟨3, 0, true, pcs (cpQ q)⟩]⟩) := by
  intro m
  induction m with
  | zero =>
    intro i hi st hst
    rw [lp_merge_copied_0, y_loop, hst]
    have ei : i = q.length := by omega
    subst ei
    rw [List.take_length]
    have e0 : decide ((q.length : Int) < q.length) = false := by simp
    (sym => simp [Qa,Qc,Qd,Qe,Qi,Qj,Qm,Qn,Qo,Qr,Qt,Qv,Qz,Q0,Q2,Q4,Q5,Xa,Xp,Xs,X0,X5,Ya,Yj,Yr,Ys,Yt,Yu,Yv,Yy,Y2,Y9,Za,Zb,Zc,Zd,Ze,Zg,Zh,Zk,Zl,Zm,Zn,Zo,Zt,Zv,Zw,Zx,Zy,Zz,Z0,Z1,Z3,Jj,Jk,Jm,Jn,Jo,Jr,Js,Ju,Jv,J1,J2,J6,Kv,Kx,Ua,Ub,Uc,Ud,Ue,Uf,Ug,Ul,Us,Ux,U0,U4,U5,U6,Vb,Ve,Vk,Vm,Vo,Vp,Vq,Vr,Vs,Vt,Vu,Vv,Vw,Vx,Vy,Vz,V0,V9,Wd,We,Hh,Hi,Hk,Hl,Ho,Hp,Hq,Hr,Hs,Ht,Hu,Hv,Hw,H1,H2,H3,H5,H6,H8,Ng,Nh,Ni,Nk,Nl,No,Np,Nx,Nz,N0,N2,Be,Bg,Ma,Mb,Md,Me,Mf,q26R0.eq_1,q26R1.eq_1,q26R2.eq_1,q26R3.eq_1,q26R4.eq_1,q26R5.eq_1,q26R6.eq_1,q26R7.eq_1,q26R8.eq_1,c_merge_copied.eq_1,c_merge_copied_L0.eq_1,e0])
  | succ m ih =>
    intro i hi st hst
    have hlt : i < q.length := by omega
    have hlt' : (i : Int) < q.length := by omega
    have hw := wrap_nat (n := i) (by have := h.1; omega)
    have hg := pcs_at hlt
    have ih := ih (i + 1) (by omega)
    have e : pcs (cpQ (q.take (i + 1))) = pcs (cpQ (q.take i)) ++ [[.int .i64 q[i].1, .int .i64 q[i].2.1, .data false 1 (byt q[i].2.2.1) false]] := by
      have e1 : q.take (i + 1) = q.take i ++ [q[i]] := by rw [List.take_add_one, List.getElem?_eq_getElem hlt]; rfl
      rw [e1, cpQ, List.map_append, pcs_append]; rfl
    rw [e] at ih
    rw [lp_merge_copied_0] at ih
    rw [lp_merge_copied_0, y_loop, hst]
    have hB := fun b f => bclone_P G q[i].2.2.1 b f (by have := h.2 q[i] (List.getElem_mem _); omega)
    have hlo : (pcs (cpQ (q.take i))).length = i := by rw [pcs_len, cpQ_len, List.length_take]; omega
    have b1 : (i + 1) * 40 ≤ 140737488355328 := by have := h.1; omega
    have n1 : i + 1 ≤ i ↔ False := by simp
    have tk : List.take i (pcs (cpQ (q.take i))) = pcs (cpQ (q.take i)) := List.take_of_length_le (by omega)
    generalize pcs (cpQ (q.take i)) = P at ih hlo tk ⊢
    generalize pcs (cpQ q) = PQ at ih ⊢
    (sym => simp [Qa,Qc,Qd,Qe,Qi,Qj,Qm,Qn,Qo,Qr,Qt,Qv,Qz,Q0,Q2,Q4,Q5,Xa,Xp,Xs,X0,X5,Ya,Yj,Yr,Ys,Yt,Yu,Yv,Yy,Y2,Y9,Za,Zb,Zc,Zd,Ze,Zg,Zh,Zk,Zl,Zm,Zn,Zo,Zt,Zv,Zw,Zx,Zy,Zz,Z0,Z1,Z3,Jj,Jk,Jm,Jn,Jo,Jr,Js,Ju,Jv,J1,J2,J6,Kv,Kx,Ua,Ub,Uc,Ud,Ue,Uf,Ug,Ul,Us,Ux,U0,U4,U5,U6,Vb,Ve,Vk,Vm,Vo,Vp,Vq,Vr,Vs,Vt,Vu,Vv,Vw,Vx,Vy,Vz,V0,V9,Wd,We,Hh,Hi,Hk,Hl,Ho,Hp,Hq,Hr,Hs,Ht,Hu,Hv,Hw,H1,H2,H3,H5,H6,H8,Ng,Nh,Ni,Nk,Nl,No,Np,Nx,Nz,N0,N2,Be,Bg,Ma,Mb,Md,Me,Mf,q26R0.eq_1,q26R1.eq_1,q26R2.eq_1,q26R3.eq_1,q26R4.eq_1,q26R5.eq_1,q26R6.eq_1,q26R7.eq_1,q26R8.eq_1,c_merge_copied.eq_1,c_merge_copied_L0.eq_1,hlt',hg,hB,hlo,b1,n1,tk,hw]; tactic => (
      refine ih _ ?_
      (sym => simp [Qa,Qc,Qd,Qe,Qi,Qj,Qm,Qn,Qo,Qr,Qt,Qv,Qz,Q0,Q2,Q4,Q5,Xa,Xp,Xs,X0,X5,Ya,Yj,Yr,Ys,Yt,Yu,Yv,Yy,Y2,Y9,Za,Zb,Zc,Zd,Ze,Zg,Zh,Zk,Zl,Zm,Zn,Zo,Zt,Zv,Zw,Zx,Zy,Zz,Z0,Z1,Z3,Jj,Jk,Jm,Jn,Jo,Jr,Js,Ju,Jv,J1,J2,J6,Kv,Kx,Ua,Ub,Uc,Ud,Ue,Uf,Ug,Ul,Us,Ux,U0,U4,U5,U6,Vb,Ve,Vk,Vm,Vo,Vp,Vq,Vr,Vs,Vt,Vu,Vv,Vw,Vx,Vy,Vz,V0,V9,Wd,We,Hh,Hi,Hk,Hl,Ho,Hp,Hq,Hr,Hs,Ht,Hu,Hv,Hw,H1,H2,H3,H5,H6,H8,Ng,Nh,Ni,Nk,Nl,No,Np,Nx,Nz,N0,N2,Be,Bg,Ma,Mb,Md,Me,Mf,hlo,tk])))
theorem copied_run (q : List Pc) (b f : Bool) (h : okL q) : aR G FT n_merge_copied [.data b 3 (pcs q) f] [] = some (.own 0 0 0 q.length q.length, [⟨3, 0, true, pcs (cpQ q)⟩]) := by
  have key := copied_loop G q b f h q.length 0 (by omega)
  have hln := pcs_len q
  simp only [Int.natCast_zero, List.take_zero, show pcs (cpQ []) = [] from rfl] at key
  rw [run_merge_copied]
  (sym => simp [Qb,Qd,Qe,Qi,Qj,Qr,Qs,Xy,Yh,Y1,Y5,Y7,Y9,Za,Zb,Zc,Ze,Zg,Zh,Zi,Zj,Zk,Zl,Zm,Zn,Zr,Zs,Zt,Zu,Zv,Zw,Zx,Zy,Zz,Z0,Z3,Jj,Jk,Jn,Jq,Jv,Jx,Us,Ux,U0,U4,U5,U6,Vb,Ve,Vk,Vm,Vo,Vp,Vq,Vr,Vs,Vt,Vu,Vv,Vw,Vx,Vy,Vz,V0,Hh,Hp,Hv,Hw,H1,H5,H6,Nl,No,Nx,Be,q26R0.eq_1,q26R1.eq_1,q26R2.eq_1,q26R3.eq_1,q26R4.eq_1,q26R5.eq_1,q26R6.eq_1,q26R7.eq_1,q26R8.eq_1,c_merge_copied.eq_1,hln]; tactic => (
    rw [key _ ?hst]
    case hst => (sym => simp [Qb,Qd,Qe,Qi,Qj,Qr,Qs,Xy,Yh,Y1,Y5,Y7,Y9,Za,Zb,Zc,Ze,Zg,Zh,Zi,Zj,Zk,Zl,Zm,Zn,Zr,Zs,Zt,Zu,Zv,Zw,Zx,Zy,Zz,Z0,Z3,Jj,Jk,Jn,Jq,Jv,Jx,Us,Ux,U0,U4,U5,U6,Vb,Ve,Vk,Vm,Vo,Vp,Vq,Vr,Vs,Vt,Vu,Vv,Vw,Vx,Vy,Vz,V0,Hh,Hp,Hv,Hw,H1,H5,H6,Nl,No,Nx,Be])
    (sym => simp [Qb,Qd,Qe,Qi,Qj,Qr,Qs,Xy,Yh,Y1,Y5,Y7,Y9,Za,Zb,Zc,Ze,Zg,Zh,Zi,Zj,Zk,Zl,Zm,Zn,Zr,Zs,Zt,Zu,Zv,Zw,Zx,Zy,Zz,Z0,Z3,Jj,Jk,Jn,Jq,Jv,Jx,Us,Ux,U0,U4,U5,U6,Vb,Ve,Vk,Vm,Vo,Vp,Vq,Vr,Vs,Vt,Vu,Vv,Vw,Vx,Vy,Vz,V0,Hh,Hp,Hv,Hw,H1,H5,H6,Nl,No,Nx,Be,q26R0.eq_1,q26R1.eq_1,q26R2.eq_1,q26R3.eq_1,q26R4.eq_1,q26R5.eq_1,q26R6.eq_1,q26R7.eq_1,q26R8.eq_1,c_merge_copied.eq_1])))
theorem copied_P (q : List Pc) (b f : Bool) (h : okL q) : aP G FT n_merge_copied [.data b 3 (pcs q) f] = some (.data false 3 (pcs (cpQ q)) false) := by
  have hlo : (pcs (cpQ q)).length = q.length := by rw [pcs_len, cpQ_len]
  have tk : List.take q.length (pcs (cpQ q)) = pcs (cpQ q) := List.take_of_length_le (by omega)
  unfold aP
  rw [copied_run G q b f h]
  (sym => simp [Zg,Zv,Zw,Zx,Zy,Zz,Z0,Wf,Hh,Hs,H8,Ng,Nz,hlo,tk])
theorem copied1_run (m a : Int) (l : List Int) (bo f : Bool) (g : Nat) (P : List (List AV)) (hl : l.length ≤ 1000) :
    aR G FT n_merge_copied [.own 2 0 0 1 1] [⟨3, 0, !bo, [[.int .i64 m, .int .i64 a, .data bo 1 (byt l) f]]⟩, ⟨3, g, true, P⟩, ⟨3, 0, !bo, [[.int .i64 m, .int .i64 a, .data bo 1 (byt l) f]]⟩] =
      some (.own 3 0 0 1 1, [⟨3, 0, !bo, [[.int .i64 m, .int .i64 a, .data bo 1 (byt l) f]]⟩, ⟨3, g, true, P⟩, ⟨3, 0, !bo, [[.int .i64 m, .int .i64 a, .data bo 1 (byt l) f]]⟩, ⟨3, 0, true, [[.int .i64 m, .int .i64 a, .data false 1 (byt l) false]]⟩]) := by
  have hB1 := fun b f => bclone_P G l b f (by omega)
  rw [run_merge_copied]
  have hw1 : IntKind.i64.wrap 1 = 1 := by decide
  cases bo <;> (sym => simp [Qa,Qb,Qc,Qd,Qe,Qi,Qj,Qm,Qn,Qo,Qr,Qs,Qt,Qv,Qz,Q0,Q2,Q4,Q5,Xa,Xp,Xs,Xy,X0,X5,Ya,Yg,Yj,Yr,Yt,Yu,Yv,Yx,Y1,Y2,Y5,Y7,Y9,Za,Zb,Zc,Zd,Ze,Zg,Zh,Zi,Zj,Zk,Zl,Zm,Zn,Zo,Zr,Zs,Zt,Zu,Zv,Zw,Zx,Zy,Zz,Z0,Z1,Z3,Jj,Jk,Jm,Jn,Jo,Jq,Jr,Js,Ju,Jv,Jx,J1,J2,J6,Kv,Kx,Ua,Ub,Uc,Ud,Ue,Uf,Ug,Ul,Us,Ux,U0,U4,U5,U6,Vb,Ve,Vi,Vj,Vk,Vl,Vm,Vn,Vo,Vp,Vq,Vr,Vs,Vt,Vu,Vv,Vw,Vx,Vy,Vz,V0,V9,Wd,We,Hh,Hi,Hk,Hl,Ho,Hp,Hq,Hr,Hs,Ht,Hu,Hv,Hw,H0,H1,H2,H3,H5,H6,H8,Nl,Nm,No,Nq,Nw,Nx,Nz,N0,N2,Be,Bg,Bh,Bi,q26R0.eq_1,q26R1.eq_1,q26R2.eq_1,q26R3.eq_1,q26R4.eq_1,q26R5.eq_1,q26R6.eq_1,q26R7.eq_1,q26R8.eq_1,c_merge_copied.eq_1,c_merge_copied_L0.eq_1,hB1,hw1,lp_merge_copied_0.eq_1,y_loop])
/-- With a piece more. -/
def pushM (q : List Pc) (t : Pc) : List Pc × Bool :=
  if mayQ 0 q = true then if pieceB t.1 t.2.1 t.2.2.1.length = true ∧ sizeQ q + t.2.2.1.length ≤ 64 then (cpQ q ++ [cp t], true) else (cpQ q, false) else ([], false)
theorem push_P (q : List Pc) (t : Pc) (b f : Bool) (h : okL q) (ht : t.2.2.1.length ≤ 1000) (bo : Bool) : aP G FT n_merge_Push [.data b 3 (pcs q) f, .agg [.int .i64 t.1, .int .i64 t.2.1, .data bo 1 (byt t.2.2.1) t.2.2.2]] = some (.tup [.data false 3 (pcs (pushM q t).1) false, .bool (pushM q t).2]) := by
  have hM := fun b f => qmay_P G q h b f
  have hZ := fun b f => size_P G q h b f
  have hC := fun b f => copied_run G q b f h
  have hP := fun b f => piece_any G FT rfl t.1 t.2.1 (byt t.2.2.1) b f
  have hbl := byt_len t.2.2.1
  rw [hbl] at hP
  unfold aP pushM
  rw [run_merge_Push]
  cases hm : mayQ 0 q with
  | false => rw [if_neg (by simp)]; cases bo <;> (sym => simp [Qb,Qc,Qd,Qe,Qf,Qg,Qi,Qj,Qm,Qn,Qo,Qr,Qt,Qu,Qw,Qz,Q0,Q2,Q4,Xa,Xd,Xp,Xy,X0,X5,Yc,Yh,Yj,Yr,Yt,Yu,Yv,Y1,Y2,Y6,Y7,Y9,Za,Zb,Zc,Ze,Zg,Zh,Zi,Zj,Zk,Zl,Zm,Zn,Zo,Zp,Zq,Zr,Zs,Zt,Zu,Zv,Zw,Zx,Zy,Zz,Z0,Z3,Jb,Jj,Jk,Jl,Jr,Jv,Jx,Kv,Kx,Ua,Ub,Uc,Ud,Ue,Uf,Ug,Ul,Us,U6,Vk,Vm,Vo,Vp,Vq,Vr,Vs,Vt,Vu,Vv,Vw,Vx,V3,V6,V9,Wd,We,Wf,Wg,Wi,Wk,Wp,Wq,Wz,W5,W6,W7,Hh,Hi,Hk,Hl,Ho,Hq,Hs,Hu,Hv,Hx,Hy,Hz,H2,H3,H5,H6,H8,Ng,Nh,Nl,Nm,No,Nq,Nt,Nw,Nx,Nz,N2,Be,Bg,q24R0.eq_1,q24R1.eq_1,q24R2.eq_1,q24R3.eq_1,q24R4.eq_1,q24R5.eq_1,q24R6.eq_1,c_merge_Push.eq_1,hM,hm,pcs_nil])
  | true =>
    rw [if_pos rfl]
    simp only [hm, if_true] at hZ
    have hlo : (pcs (cpQ q)).length = q.length := by rw [pcs_len, cpQ_len]
    have tk : List.take q.length (pcs (cpQ q)) = pcs (cpQ q) := List.take_of_length_le (by omega)
    cases hp : pieceB t.1 t.2.1 t.2.2.1.length with
    | false => rw [if_neg (by simp)]; cases bo <;> (sym => simp [Qb,Qc,Qd,Qe,Qf,Qg,Qi,Qj,Qm,Qn,Qo,Qr,Qt,Qu,Qw,Qz,Q0,Q2,Q4,Xa,Xd,Xp,Xy,X0,X5,Yc,Yh,Yj,Yr,Yt,Yu,Yv,Y1,Y2,Y6,Y7,Y9,Za,Zb,Zc,Ze,Zg,Zh,Zi,Zj,Zk,Zl,Zm,Zn,Zo,Zp,Zq,Zr,Zs,Zt,Zu,Zv,Zw,Zx,Zy,Zz,Z0,Z3,Jb,Jj,Jk,Jl,Jr,Jv,Jx,Kv,Kx,Ua,Ub,Uc,Ud,Ue,Uf,Ug,Ul,Us,U6,Vk,Vm,Vo,Vp,Vq,Vr,Vs,Vt,Vu,Vv,Vw,Vx,V3,V6,V9,Wd,We,Wf,Wg,Wi,Wk,Wp,Wq,Wz,W5,W6,W7,Hh,Hi,Hk,Hl,Ho,Hq,Hs,Hu,Hv,Hx,Hy,Hz,H2,H3,H5,H6,H8,Ng,Nh,Nl,Nm,No,Nq,Nt,Nw,Nx,Nz,N2,Be,Bg,q24R0.eq_1,q24R1.eq_1,q24R2.eq_1,q24R3.eq_1,q24R4.eq_1,q24R5.eq_1,q24R6.eq_1,c_merge_Push.eq_1,hM,hm,hC,hP,hp,hlo,tk])
    | true =>
      have hs := sizeQ_le q h.2
      have h1 := h.1
      have hw : IntKind.i64.wrap ((sizeQ q : Int) + t.2.2.1.length) = ((sizeQ q + t.2.2.1.length : Nat) : Int) := by rw [wrap_in _ (by omega) (by omega)]; omega
      by_cases h6 : sizeQ q + t.2.2.1.length ≤ 64
      · rw [if_pos ⟨rfl, h6⟩]
        have h6' : ¬ (64 : Int) < ((sizeQ q + t.2.2.1.length : Nat) : Int) := by omega
        have hC1 := fun b f g P => copied1_run G t.1 t.2.1 t.2.2.1 b f g P ht
        have hC2 := fun f g P => hC1 false f g P
        have hC3 := fun f g P => hC1 true f g P
        simp only [Bool.not_false, Bool.not_true] at hC2 hC3
        have b1 : (q.length + 1) * 40 ≤ 140737488355328 := by omega
        have n1 : q.length + 1 ≤ q.length ↔ False := by simp
        have e : pcs (cpQ q ++ [cp t]) = pcs (cpQ q) ++ [[.int .i64 t.1, .int .i64 t.2.1, .data false 1 (byt t.2.2.1) false]] := by rw [pcs_append]; rfl
        rw [e]
        generalize pcs (cpQ q) = P at *
        have tk1 : List.take (q.length + 1) (P ++ [[AV.int .i64 t.1, .int .i64 t.2.1, .data false 1 (byt t.2.2.1) false]]) = P ++ [[AV.int .i64 t.1, .int .i64 t.2.1, .data false 1 (byt t.2.2.1) false]] := List.take_of_length_le (by simp [hlo])
        cases bo <;> (sym => simp [Qb,Qc,Qd,Qe,Qf,Qg,Qi,Qj,Qm,Qn,Qo,Qr,Qt,Qu,Qw,Qz,Q0,Q2,Q4,Xa,Xd,Xp,Xy,X0,X5,Yc,Yh,Yj,Yr,Yt,Yu,Yv,Y1,Y2,Y6,Y7,Y9,Za,Zb,Zc,Ze,Zg,Zh,Zi,Zj,Zk,Zl,Zm,Zn,Zo,Zp,Zq,Zr,Zs,Zt,Zu,Zv,Zw,Zx,Zy,Zz,Z0,Z3,Jb,Jj,Jk,Jl,Jr,Jv,Jx,Kv,Kx,Ua,Ub,Uc,Ud,Ue,Uf,Ug,Ul,Us,U6,Vk,Vm,Vo,Vp,Vq,Vr,Vs,Vt,Vu,Vv,Vw,Vx,V3,V6,V9,Wd,We,Wf,Wg,Wi,Wk,Wp,Wq,Wz,W5,W6,W7,Hh,Hi,Hk,Hl,Ho,Hq,Hs,Hu,Hv,Hx,Hy,Hz,H2,H3,H5,H6,H8,Ng,Nh,Nl,Nm,No,Nq,Nt,Nw,Nx,Nz,N2,Be,Bg,q24R0.eq_1,q24R1.eq_1,q24R2.eq_1,q24R3.eq_1,q24R4.eq_1,q24R5.eq_1,q24R6.eq_1,c_merge_Push.eq_1,hM,hm,hC,hP,hp,hZ,hw,hbl,h6',hC2,hC3,hlo,tk,tk1,b1,n1])
      · rw [if_neg (fun hh => h6 hh.2)]
        have h6' : (64 : Int) < ((sizeQ q + t.2.2.1.length : Nat) : Int) := by omega
        cases bo <;> (sym => simp [Qb,Qc,Qd,Qe,Qf,Qg,Qi,Qj,Qm,Qn,Qo,Qr,Qt,Qu,Qw,Qz,Q0,Q2,Q4,Xa,Xd,Xp,Xy,X0,X5,Yc,Yh,Yj,Yr,Yt,Yu,Yv,Y1,Y2,Y6,Y7,Y9,Za,Zb,Zc,Ze,Zg,Zh,Zi,Zj,Zk,Zl,Zm,Zn,Zo,Zp,Zq,Zr,Zs,Zt,Zu,Zv,Zw,Zx,Zy,Zz,Z0,Z3,Jb,Jj,Jk,Jl,Jr,Jv,Jx,Kv,Kx,Ua,Ub,Uc,Ud,Ue,Uf,Ug,Ul,Us,U6,Vk,Vm,Vo,Vp,Vq,Vr,Vs,Vt,Vu,Vv,Vw,Vx,V3,V6,V9,Wd,We,Wf,Wg,Wi,Wk,Wp,Wq,Wz,W5,W6,W7,Hh,Hi,Hk,Hl,Ho,Hq,Hs,Hu,Hv,Hx,Hy,Hz,H2,H3,H5,H6,H8,Ng,Nh,Nl,Nm,No,Nq,Nt,Nw,Nx,Nz,N2,Be,Bg,q24R0.eq_1,q24R1.eq_1,q24R2.eq_1,q24R3.eq_1,q24R4.eq_1,q24R5.eq_1,q24R6.eq_1,c_merge_Push.eq_1,hM,hm,hC,hP,hp,hZ,hw,hbl,h6',hlo,tk])
/-- How many first pieces fit. -/
def popN : List Pc → Int → Nat
  | [], _ => 0
  | x :: q, n => if (x.2.2.1.length : Int) ≤ n then popN q (n - x.2.2.1.length) + 1 else 0
theorem popN_le : ∀ (q : List Pc) (n : Int), popN q n ≤ q.length
  | [], _ => by simp [popN]
  | x :: q, n => by
    rw [popN]; split
    · have := popN_le q (n - x.2.2.1.length); rw [List.length_cons]; omega
    · omega
theorem pop_loop (q : List Pc) (b f : Bool) (h : okL q) : ∀ (m i : Nat) (n : Int), i + m = q.length → n ≤ 9223372036854775807 → ∃ n' x,
    aE G FT 0 lp_merge_Pop_0 ⟨[(0, .data b 3 (pcs q) f), (1, .int .i64 n), (6, .int .i64 i)], []⟩ = some (.exit 0, ⟨[(0, .data b 3 (pcs q) f), (1, .int .i64 n'), (6, .int .i64 ((i + popN (q.drop i) n : Nat) : Int)), (23, x)], []⟩) := by
  intro m
  induction m with
  | zero =>
    intro i n hi hn
    have e : q.drop i = [] := List.drop_eq_nil_of_le (by omega)
    have ei : i = q.length := by omega
    subst ei
    have e0 : decide ((q.length : Int) < q.length) = false := by simp
    have hln := pcs_len q
    refine ⟨n, .bool false, ?_⟩
    rw [e, popN, lp_merge_Pop_0, y_loop]
    (sym => simp [Qa,Qc,Qd,Qe,Qf,Qg,Qi,Qj,Qr,Qt,Qu,Q4,Xa,Xp,Xs,Xy,X5,X6,Ya,Yb,Yh,Ys,Yt,Yw,Yy,Y9,Za,Zb,Zc,Ze,Zg,Zh,Zk,Zl,Zt,Zv,Zw,Z3,Ja,Jj,Jk,Jm,Jn,Jo,Jr,Js,Ju,Jv,Ux,U0,U4,U5,Vb,Ve,Vo,Vq,Vr,Vt,Vv,Vw,Vy,Vz,V0,Hh,Hq,Hr,Hs,Hw,H1,H9,Ni,Nk,Nl,Nm,No,Be,Ma,Mb,Md,Me,Mf,q23R0.eq_1,q23R1.eq_1,q23R2.eq_1,q23R3.eq_1,q23R4.eq_1,q23R5.eq_1,q23R6.eq_1,q23R7.eq_1,c_merge_Pop.eq_1,c_merge_Pop_L0.eq_1,e0,hln])
  | succ m ih =>
    intro i n hi hn
    have hlt : i < q.length := by omega
    have hlt' : (i : Int) < q.length := by omega
    have hw := wrap_nat (n := i) (by have := h.1; omega)
    have hg := pcs_at hlt
    have hln := pcs_len q
    have hbl := byt_len q[i].2.2.1
    have e : q.drop i = q[i] :: q.drop (i + 1) := List.drop_eq_getElem_cons hlt
    rw [e, popN]
    by_cases hx : (q[i].2.2.1.length : Int) ≤ n
    · obtain ⟨n', x, ih⟩ := ih (i + 1) (n - q[i].2.2.1.length) (by omega) (by omega)
      refine ⟨n', x, ?_⟩
      rw [if_pos hx, show i + (popN (q.drop (i + 1)) (n - q[i].2.2.1.length) + 1) = i + 1 + popN (q.drop (i + 1)) (n - q[i].2.2.1.length) by omega, ← ih]
      have hwn : IntKind.i64.wrap (n - q[i].2.2.1.length) = n - q[i].2.2.1.length := by rw [wrap_in _ (by omega) (by omega)]
      rw [lp_merge_Pop_0, y_loop]
      (sym => simp [Qa,Qc,Qd,Qe,Qf,Qg,Qi,Qj,Qr,Qt,Qu,Q4,Xa,Xp,Xs,Xy,X5,X6,Ya,Yb,Yh,Ys,Yt,Yw,Yy,Y9,Za,Zb,Zc,Ze,Zg,Zh,Zk,Zl,Zt,Zv,Zw,Z3,Ja,Jj,Jk,Jm,Jn,Jo,Jr,Js,Ju,Jv,Ux,U0,U4,U5,Vb,Ve,Vo,Vq,Vr,Vt,Vv,Vw,Vy,Vz,V0,Hh,Hq,Hr,Hs,Hw,H1,H9,Ni,Nk,Nl,Nm,No,Be,Ma,Mb,Md,Me,Mf,q23R0.eq_1,q23R1.eq_1,q23R2.eq_1,q23R3.eq_1,q23R4.eq_1,q23R5.eq_1,q23R6.eq_1,q23R7.eq_1,c_merge_Pop.eq_1,c_merge_Pop_L0.eq_1,hlt',hg,hln,hbl,hx,hw,hwn])
    · refine ⟨n, .bool false, ?_⟩
      rw [if_neg hx, lp_merge_Pop_0, y_loop]
      (sym => simp [Qa,Qc,Qd,Qe,Qf,Qg,Qi,Qj,Qr,Qt,Qu,Q4,Xa,Xp,Xs,Xy,X5,X6,Ya,Yb,Yh,Ys,Yt,Yw,Yy,Y9,Za,Zb,Zc,Ze,Zg,Zh,Zk,Zl,Zt,Zv,Zw,Z3,Ja,Jj,Jk,Jm,Jn,Jo,Jr,Js,Ju,Jv,Ux,U0,U4,U5,Vb,Ve,Vo,Vq,Vr,Vt,Vv,Vw,Vy,Vz,V0,Hh,Hq,Hr,Hs,Hw,H1,H9,Ni,Nk,Nl,Nm,No,Be,Ma,Mb,Md,Me,Mf,q23R0.eq_1,q23R1.eq_1,q23R2.eq_1,q23R3.eq_1,q23R4.eq_1,q23R5.eq_1,q23R6.eq_1,q23R7.eq_1,c_merge_Pop.eq_1,c_merge_Pop_L0.eq_1,hlt',hg,hln,hbl,hx])
def popM (q : List Pc) (n : Int) : List Pc × List Pc := if mayQ 0 q = true then (cpQ (q.drop (popN q n)), cpQ (q.take (popN q n))) else ([], [])
theorem okL_sub {q r : List Pc} (h : okL q) (hl : r.length ≤ q.length) (hs : ∀ x ∈ r, x ∈ q) : okL r := ⟨by have := h.1; omega, fun x hx => h.2 x (hs x hx)⟩
theorem pop_P (q : List Pc) (b f : Bool) (h : okL q) (n : Int) (hn : n ≤ 9223372036854775807) : aP G FT n_merge_Pop [.data b 3 (pcs q) f, .int .i64 n] = some (.tup [.data false 3 (pcs (popM q n).1) false, .data false 3 (pcs (popM q n).2) false]) := by
  have hM := fun b f => qmay_P G q h b f
  unfold aP popM
  rw [run_merge_Pop]
  cases hm : mayQ 0 q with
  | false => rw [if_neg (by simp)]; (sym => simp [Qb,Qc,Qd,Qe,Qi,Qj,Qm,Qn,Qo,Qr,Qt,Xd,Xl,Xm,Xn,Xy,Yh,Y1,Y6,Y7,Y9,Za,Zb,Zc,Ze,Zg,Zh,Zi,Zj,Zk,Zl,Zm,Zo,Zr,Zs,Zt,Zu,Zv,Zw,Z3,Jj,Jk,Jl,Jn,Jq,Jr,Jv,Jx,K0,K1,K4,V9,Wd,We,Wg,Wi,Wp,Wq,Hs,Nf,Ng,Ni,Nk,Nl,Nw,Nx,Nz,Be,q23R0.eq_1,q23R1.eq_1,q23R2.eq_1,q23R3.eq_1,q23R4.eq_1,q23R5.eq_1,q23R6.eq_1,q23R7.eq_1,c_merge_Pop.eq_1,hM,hm,pcs_nil])
  | true =>
    rw [if_pos rfl]
    obtain ⟨n', x, key⟩ := pop_loop G q b f h q.length 0 n (by omega) hn
    simp only [List.drop_zero, Nat.zero_add, Int.natCast_zero] at key
    have hle := popN_le q n
    generalize popN q n = k at key hle ⊢
    have hle' : (k : Int) ≤ q.length := by omega
    have hln := pcs_len q
    have c1 := fun b f => copied_P G (q.drop k) b f (okL_sub h (by simp) (fun x hx => List.mem_of_mem_drop hx))
    have c2 := fun b f => copied_P G (q.take k) b f (okL_sub h (by simp; omega) (fun x hx => List.mem_of_mem_take hx))
    have d1 : List.drop k (pcs q) = pcs (q.drop k) := by simp [pcs, List.map_drop]
    have d2 : List.take k (pcs q) = pcs (q.take k) := by simp [pcs, List.map_take]
    have d3 : List.take (q.length - k) (pcs (q.drop k)) = pcs (q.drop k) := List.take_of_length_le (by rw [pcs_len]; simp)
    have d4 : List.take q.length (pcs q) = pcs q := List.take_of_length_le (by omega)
    have e1 : decide (q.length = q.length) = true := by simp
    have e2 : decide (k = k) = true := by simp
    (sym => simp [Qb,Qc,Qd,Qe,Qi,Qj,Qm,Qn,Qo,Qr,Qt,Xd,Xl,Xm,Xn,Xy,Yh,Y1,Y6,Y7,Y9,Za,Zb,Zc,Ze,Zg,Zh,Zi,Zj,Zk,Zl,Zm,Zo,Zr,Zs,Zt,Zu,Zv,Zw,Z3,Jj,Jk,Jl,Jn,Jq,Jr,Jv,Jx,K0,K1,K4,V9,Wd,We,Wg,Wi,Wp,Wq,Hs,Nf,Ng,Ni,Nk,Nl,Nw,Nx,Nz,Be,q23R0.eq_1,q23R1.eq_1,q23R2.eq_1,q23R3.eq_1,q23R4.eq_1,q23R5.eq_1,q23R6.eq_1,q23R7.eq_1,c_merge_Pop.eq_1,hM,hm,key,hln,hle,c1,c2,d1,d2,d4,e1,e2,List.drop_zero])
theorem drop1_run (x : Pc) (k : Int) (h : List ARow) (id : Nat) (hid : h[id]? = some ⟨1, 0, true, [[.int .i64 k]]⟩) : aR G FT n_merge_Drop_1 [.agg [.int .i64 x.1, .int .i64 x.2.1, .data false 1 (byt x.2.2.1) x.2.2.2], .ptr id 0 0 0] h = some (.bool (decide (x.1 = k)), h ++ [⟨3, 0, true, [[.int .i64 x.1, .int .i64 x.2.1, .data false 1 (byt x.2.2.1) x.2.2.2]]⟩]) := by
  have hlt : id < h.length := by rcases Nat.lt_or_ge id h.length with h' | h'; exact h'; rw [List.getElem?_eq_none h'] at hid; cases hid
  have hv : ∀ v, (h ++ [v])[h.length]? = some v := fun v => by rw [List.getElem?_append_right (Nat.le_refl _), Nat.sub_self]; rfl
  have ha : ∀ v, (h ++ [v])[id]? = some ⟨1, 0, true, [[.int .i64 k]]⟩ := fun v => by rw [List.getElem?_append_left hlt]; exact hid
  rw [run_merge_Drop_1]
  by_cases hx : x.1 = k
  · (sym => simp [Qb,Qd,Qe,Qi,Qj,Qr,Qw,Q4,Xa,Xp,X8,Yj,Yr,Yt,Yv,Y1,Y5,Y7,Y9,Za,Zb,Zc,Ze,Zg,Zh,Zi,Zj,Zk,Zl,Zm,Zn,Zr,Zs,Zt,Zu,Zv,Zw,Zy,Z0,Jj,Jk,Jv,Jx,Ue,Uf,Ug,Ul,Hh,Nl,Nm,No,Nx,Be,q21R0.eq_1,q21R1.eq_1,c_merge_Drop_1.eq_1,hv,ha,hx])
  · (sym => simp [Qb,Qd,Qe,Qi,Qj,Qr,Qw,Q4,Xa,Xp,X8,Yj,Yr,Yt,Yv,Y1,Y5,Y7,Y9,Za,Zb,Zc,Ze,Zg,Zh,Zi,Zj,Zk,Zl,Zm,Zn,Zr,Zs,Zt,Zu,Zv,Zw,Zy,Z0,Jj,Jk,Jv,Jx,Ue,Uf,Ug,Ul,Hh,Nl,Nm,No,Nx,Be,q21R0.eq_1,q21R1.eq_1,c_merge_Drop_1.eq_1,hv,ha,hx])
def dropM (q : List Pc) (k : Int) : List Pc := if mayQ 0 q = true then cpQ (q.filter fun x => !decide (x.1 = k)) else []
theorem drop_P (q : List Pc) (b f : Bool) (h : okL q) (k : Int) : aP G FT n_merge_Drop [.data b 3 (pcs q) f, .int .i64 k] = some (.data false 3 (pcs (dropM q k)) false) := by
  have hM := fun b f => qmay_P G q h b f
  unfold aP dropM
  rw [run_merge_Drop]
  cases hm : mayQ 0 q with
  | false => rw [if_neg (by simp)]; (sym => simp [Qb,Qc,Qd,Qe,Qi,Qj,Qm,Qn,Qo,Qr,Qt,Qw,Xd,Xj,Yk,Y1,Y5,Y7,Y9,Za,Zb,Zc,Ze,Zg,Zh,Zi,Zj,Zk,Zl,Zm,Zn,Zo,Zp,Zq,Zr,Zs,Zt,Zu,Zv,Zw,Zx,Zy,Zz,Z0,Z3,Jj,Jk,Jl,Jr,Jv,Jx,Ue,Uf,Ug,Us,U6,Vk,Vm,Vo,Vp,Vq,Vr,Vs,Vt,Vu,Vv,Vw,Vx,V9,Wd,We,Wf,Wg,Wz,W5,W6,W7,Hh,Hi,Hs,Hu,Hv,Hy,Hz,H5,H6,H8,Nl,No,Nt,Nw,Nx,Nz,Be,q20R0.eq_1,q20R1.eq_1,q20R2.eq_1,q20R3.eq_1,c_merge_Drop.eq_1,hM,hm,pcs_nil])
  | true =>
    rw [if_pos rfl]
    have hC := fun b f => copied_run G q b f h
    have hlo : (pcs (cpQ q)).length = q.length := by rw [pcs_len, cpQ_len]
    have tk : List.take q.length (pcs (cpQ q)) = pcs (cpQ q) := List.take_of_length_le (by omega)
    have hD := delj_Typed G pcell (0, 0, [], true) rfl (fun _ => rfl) (fun x => by simp [pcell, AV.stableL, AV.stable]) (cpQ q) 1 0 q.length n_merge_Drop_1 [] [.ptr 0 0 0 0] (fun x => decide (x.1 = k)) [⟨1, 0, true, [[.int .i64 k]]⟩, ⟨3, 0, true, pcs (cpQ q)⟩]
      (by simp) (fun r hr' i hi => by simp at hr'; rcases hr' with rfl | rfl <;> simp [ARow.ids] at hi) (by simp [AV.idsL, AV.ids]) (by rw [cpQ_len]; have := h.1; omega) (by rw [cpQ_len]; exact Nat.le_refl _) (fun x => [⟨3, 0, true, [pcell x]⟩])
      (fun R x e => by
        have := drop1_run G x k ([⟨1, 0, true, [[.int .i64 k]]⟩, ⟨3, 0, true, List.map pcell R⟩] ++ e) 0 rfl
        rw [List.append_assoc] at this
        exact this) rfl
    have hf : (cpQ q).filter (fun x => !decide (x.1 = k)) = cpQ (q.filter fun x => !decide (x.1 = k)) := by rw [cpQ, List.filter_map]; rfl
    rw [hf, cpQ_len] at hD
    have hwl : (cpQ (q.filter fun x => !decide (x.1 = k))).length ≤ q.length := by rw [cpQ_len]; exact List.length_filter_le _ _
    generalize cpQ (q.filter fun x => !decide (x.1 = k)) = W at hD hwl ⊢
    simp only [List.set_cons_succ, List.set_cons_zero] at hD
    have tkw : List.take W.length (List.map pcell (W ++ List.replicate (q.length - W.length) ((0, 0, [], true) : Pc))) = pcs W := by rw [List.map_append, List.take_left' (by simp)]; rfl
    have ml : (List.map pcell (W ++ List.replicate (q.length - W.length) ((0, 0, [], true) : Pc))).length = q.length := by simp; omega
    (sym => simp [Qb,Qc,Qd,Qe,Qi,Qj,Qm,Qn,Qo,Qr,Qt,Qw,Xd,Xj,Yk,Y1,Y5,Y7,Y9,Za,Zb,Zc,Ze,Zg,Zh,Zi,Zj,Zk,Zl,Zm,Zn,Zo,Zp,Zq,Zr,Zs,Zt,Zu,Zv,Zw,Zx,Zy,Zz,Z0,Z3,Jj,Jk,Jl,Jr,Jv,Jx,Ue,Uf,Ug,Us,U6,Vk,Vm,Vo,Vp,Vq,Vr,Vs,Vt,Vu,Vv,Vw,Vx,V9,Wd,We,Wf,Wg,Wz,W5,W6,W7,Hh,Hi,Hs,Hu,Hv,Hy,Hz,H5,H6,H8,Nl,No,Nt,Nw,Nx,Nz,Be,q20R0.eq_1,q20R1.eq_1,q20R2.eq_1,q20R3.eq_1,c_merge_Drop.eq_1,hM,hm,hC,tk,hlo,hD,tkw,ml,hwl])
end Go.Proofs.Ytfnonledcniojaa
