/- MergeBytes: who and what are filled. Conditions: none. -/
import Derived.Test.YtfnonledcniojaaMg3
set_option linter.unusedVariables false
set_option linter.unusedSimpArgs false
set_option linter.unusedSectionVars false
set_option maxRecDepth 20000
set_option maxHeartbeats 4000000
namespace Go.Proofs.Ytfnonledcniojaa
open Go
variable (G : Nat → Option (List AV))
/-- The rows: left's box, the result's, the closure's, who's, what's, and what these hold. -/
def hpB (left : Int) (q : List Pc) (f : Bool) (wh : List (Int × Int)) : List ARow :=
  match wh with
  | [] => [⟨1, 0, true, [[.int .i64 left]]⟩, ⟨1, 0, true, [[.bool false]]⟩, ⟨1, 0, true, [[.data false 3 (pcs q) f]]⟩, ⟨1, 0, true, [[.data false 1 [] true]]⟩, ⟨1, 0, true, [[.data false 1 [] true]]⟩]
  | p :: r => [⟨1, 0, true, [[.int .i64 left]]⟩, ⟨1, 0, true, [[.bool false]]⟩, ⟨1, 0, true, [[.data false 3 (pcs q) f]]⟩, ⟨1, 0, false, [[.own 5 0 0 (p :: r).length (p :: r).length]]⟩, ⟨1, 0, false, [[.own 6 0 0 (p :: r).length (p :: r).length]]⟩, ⟨1, 0, true, ints ((p :: r).map Prod.fst)⟩, ⟨1, 0, true, byt ((p :: r).map Prod.snd)⟩]
theorem byt_one (x : Int) : byt [x] = [[.int .u8 x]] := rfl
theorem ints_none : ints [] = [] := rfl
theorem byt_none : byt [] = [] := rfl
theorem byt_append (l m : List Int) : byt (l ++ m) = byt l ++ byt m := by simp [byt]
theorem hpB_cons (left : Int) (q : List Pc) (f : Bool) {wh : List (Int × Int)} (h : wh ≠ []) : hpB left q f wh = [⟨1, 0, true, [[.int .i64 left]]⟩, ⟨1, 0, true, [[.bool false]]⟩, ⟨1, 0, true, [[.data false 3 (pcs q) f]]⟩, ⟨1, 0, false, [[.own 5 0 0 wh.length wh.length]]⟩, ⟨1, 0, false, [[.own 6 0 0 wh.length wh.length]]⟩, ⟨1, 0, true, ints (wh.map Prod.fst)⟩, ⟨1, 0, true, byt (wh.map Prod.snd)⟩] := by
  cases wh with
  | nil => exact absurd rfl h
  | cons => rfl
theorem fill_in (q : List Pc) (f : Bool) (left : Int) (i : Nat) (hi : i < q.length) (hb : q[i].2.2.1.length ≤ 100) : ∀ m j, j + m = q[i].2.2.1.length → ∀ (wh : List (Int × Int)) (st : ASt), wh.length ≤ 100000 - m →
    agc 0 [0, 3, 4, 5, 6, 7, 8, 9] st = some ⟨[(0, .data false 3 (pcs q) f), (3, .ptr 0 0 0 0), (4, .ptr 1 0 0 0), (5, .fn (.func n_merge_Bytes_1) [] [.ptr 2 0 0 0]), (6, .ptr 3 0 0 0), (7, .ptr 4 0 0 0), (8, .int .i64 i), (9, .int .i64 j)], hpB left q f wh⟩ →
    aE G FT 0 lp_law28_MergeBytes_1 st = some (.exit 2, ⟨[(0, .data false 3 (pcs q) f), (3, .ptr 0 0 0 0), (4, .ptr 1 0 0 0), (5, .fn (.func n_merge_Bytes_1) [] [.ptr 2 0 0 0]), (6, .ptr 3 0 0 0), (7, .ptr 4 0 0 0), (8, .int .i64 i), (9, .int .i64 q[i].2.2.1.length), (39, .bool false)], hpB left q f (wh ++ (q[i].2.2.1.drop j).map fun x => (q[i].1, x))⟩) := by
  have hln := pcs_len q
  have hg := pcs_at hi
  have hi2 : (i : Int) < q.length := by omega
  have hbl := byt_len q[i].2.2.1
  intro m
  induction m with
  | zero =>
    intro j hj wh st hw hgc
    obtain rfl : j = q[i].2.2.1.length := by omega
    have q1 : ¬ (q[i].2.2.1.length : Int) < q[i].2.2.1.length := by omega
    have e : wh ++ (q[i].2.2.1.drop q[i].2.2.1.length).map (fun x => (q[i].1, x)) = wh := by simp
    rw [e, lp_law28_MergeBytes_1, y_loop, hgc]
    generalize hpB left q f wh = C
    (sym => simp [Qa,Qc,Qd,Qe,Qi,Qj,Qr,Qt,Qz,Q0,Q2,Q4,Q5,Xa,Xp,Xs,Xy,X0,X5,Ya,Yh,Yk,Yr,Ys,Yt,Yw,Yy,Y2,Y9,Za,Zb,Zc,Zd,Ze,Zg,Zh,Zk,Zl,Zm,Zn,Zt,Zv,Zw,Zx,Zy,Zz,Z0,Z1,Z3,Jj,Jk,Jm,Jn,Jo,Jr,Js,Ju,Jv,J7,Kv,Kw,Kx,Ua,Ub,Uc,Ud,Ue,Uf,Ug,Us,Ut,Uw,Ux,U0,U4,U5,U6,U7,Va,Vb,Ve,Vi,Vj,Vk,Vl,Vm,Vn,Vo,Vp,Vq,Vr,Vs,Vt,Vu,Vv,Vw,Vx,Vy,Vz,V0,Hh,Hi,Hk,Hl,Ho,Hp,Hq,Hr,Hs,Hu,Hv,Hw,H0,H1,H2,H3,H4,H5,H6,H8,Nc,Ng,Nh,Ni,Nk,Nl,Nm,Nn,No,Nq,Nu,Nx,Nz,N2,Be,Bg,q12R0.eq_1,q12R1.eq_1,q12R2.eq_1,q12R3.eq_1,q12R4.eq_1,q12R5.eq_1,q12R6.eq_1,q12R7.eq_1,q12R8.eq_1,q12R9.eq_1,q12R10.eq_1,q12R11.eq_1,q12R13.eq_1,q12R14.eq_1,q12R16.eq_1,q12R17.eq_1,q12R15.eq_1,q12R12.eq_1,q12R18.eq_1,q12R19.eq_1,q12R21.eq_1,q12R22.eq_1,q12R23.eq_1,q12R24.eq_1,q12R25.eq_1,q12R26.eq_1,q12R27.eq_1,q12R28.eq_1,q12R29.eq_1,q12R30.eq_1,q12R31.eq_1,q12R32.eq_1,q12R20.eq_1,q12R33.eq_1,c_law28_MergeBytes.eq_1,c_law28_MergeBytes_L1.eq_1,hln,hg,hi2,hbl,q1])
  | succ m ih =>
    intro j hj wh st hw hgc
    have hjl : j < q[i].2.2.1.length := by omega
    have q1 : (j : Int) < q[i].2.2.1.length := by omega
    have hwr := wrap_nat (n := j) (by omega)
    have b1 : (byt q[i].2.2.1)[j]? = some [.int .u8 q[i].2.2.1[j]] := by simp [byt, hjl]
    have ih := ih (j + 1) (by omega) (wh ++ [(q[i].1, q[i].2.2.1[j])])
    have e : wh ++ (q[i].2.2.1.drop j).map (fun x => (q[i].1, x)) = wh ++ [(q[i].1, q[i].2.2.1[j])] ++ (q[i].2.2.1.drop (j + 1)).map fun x => (q[i].1, x) := by rw [List.drop_eq_getElem_cons hjl, List.map_cons, List.append_assoc]; rfl
    rw [e, lp_law28_MergeBytes_1, y_loop, hgc]
    rw [lp_law28_MergeBytes_1] at ih
    generalize q[i].2.2.1[j] = x at *
    rw [hpB_cons left q f (wh := wh ++ [(q[i].1, x)]) (by simp)] at ih
    simp only [List.map_append, List.map_cons, List.map_nil, ints_append, byt_append, List.length_append, List.length_cons, List.length_nil] at ih
    by_cases hn : wh = []
    · subst hn
      simp only [hpB, List.map_nil, List.nil_append, List.length_nil] at ih ⊢
      (sym => simp [Qa,Qc,Qd,Qe,Qi,Qj,Qr,Qt,Qz,Q0,Q2,Q4,Q5,Xa,Xp,Xs,Xy,X0,X5,Ya,Yh,Yk,Yr,Ys,Yt,Yw,Yy,Y2,Y9,Za,Zb,Zc,Zd,Ze,Zg,Zh,Zk,Zl,Zm,Zn,Zt,Zv,Zw,Zx,Zy,Zz,Z0,Z1,Z3,Jj,Jk,Jm,Jn,Jo,Jr,Js,Ju,Jv,J7,Kv,Kw,Kx,Ua,Ub,Uc,Ud,Ue,Uf,Ug,Us,Ut,Uw,Ux,U0,U4,U5,U6,U7,Va,Vb,Ve,Vi,Vj,Vk,Vl,Vm,Vn,Vo,Vp,Vq,Vr,Vs,Vt,Vu,Vv,Vw,Vx,Vy,Vz,V0,Hh,Hi,Hk,Hl,Ho,Hp,Hq,Hr,Hs,Hu,Hv,Hw,H0,H1,H2,H3,H4,H5,H6,H8,Nc,Ng,Nh,Ni,Nk,Nl,Nm,Nn,No,Nq,Nu,Nx,Nz,N2,Be,Bg,q12R0.eq_1,q12R1.eq_1,q12R2.eq_1,q12R3.eq_1,q12R4.eq_1,q12R5.eq_1,q12R6.eq_1,q12R7.eq_1,q12R8.eq_1,q12R9.eq_1,q12R10.eq_1,q12R11.eq_1,q12R13.eq_1,q12R14.eq_1,q12R16.eq_1,q12R17.eq_1,q12R15.eq_1,q12R12.eq_1,q12R18.eq_1,q12R19.eq_1,q12R21.eq_1,q12R22.eq_1,q12R23.eq_1,q12R24.eq_1,q12R25.eq_1,q12R26.eq_1,q12R27.eq_1,q12R28.eq_1,q12R29.eq_1,q12R30.eq_1,q12R31.eq_1,q12R32.eq_1,q12R20.eq_1,q12R33.eq_1,c_law28_MergeBytes.eq_1,c_law28_MergeBytes_L1.eq_1,hln,hg,hi2,hbl,q1,hwr,b1]; tactic => (refine ih _ (by simp; omega) ?_; (sym => simp [Qa,Qc,Qd,Qe,Qi,Qj,Qr,Qt,Qz,Q0,Q2,Q4,Q5,Xa,Xp,Xs,Xy,X0,X5,Ya,Yh,Yk,Yr,Ys,Yt,Yw,Yy,Y2,Y9,Za,Zb,Zc,Zd,Ze,Zg,Zh,Zk,Zl,Zm,Zn,Zt,Zv,Zw,Zx,Zy,Zz,Z0,Z1,Z3,Jj,Jk,Jm,Jn,Jo,Jr,Js,Ju,Jv,J7,Kv,Kw,Kx,Ua,Ub,Uc,Ud,Ue,Uf,Ug,Us,Ut,Uw,Ux,U0,U4,U5,U6,U7,Va,Vb,Ve,Vi,Vj,Vk,Vl,Vm,Vn,Vo,Vp,Vq,Vr,Vs,Vt,Vu,Vv,Vw,Vx,Vy,Vz,V0,Hh,Hi,Hk,Hl,Ho,Hp,Hq,Hr,Hs,Hu,Hv,Hw,H0,H1,H2,H3,H4,H5,H6,H8,Nc,Ng,Nh,Ni,Nk,Nl,Nm,Nn,No,Nq,Nu,Nx,Nz,N2,Be,Bg,ints_one,byt_one,ints_none,byt_none])))
    · rw [hpB_cons left q f hn]
      have a1 := ints_len (wh.map Prod.fst)
      have a2 := byt_len (wh.map Prod.snd)
      rw [List.length_map] at a1 a2
      have a3 : (ints (wh.map Prod.fst)).take wh.length = ints (wh.map Prod.fst) := List.take_of_length_le (by omega)
      have a4 : (byt (wh.map Prod.snd)).take wh.length = byt (wh.map Prod.snd) := List.take_of_length_le (by omega)
      have q5 : (wh.length + 1) * 8 ≤ 140737488355328 := by omega
      have q6 : wh.length + 1 ≤ 140737488355328 := by omega
      (sym => simp [Qa,Qc,Qd,Qe,Qi,Qj,Qr,Qt,Qz,Q0,Q2,Q4,Q5,Xa,Xp,Xs,Xy,X0,X5,Ya,Yh,Yk,Yr,Ys,Yt,Yw,Yy,Y2,Y9,Za,Zb,Zc,Zd,Ze,Zg,Zh,Zk,Zl,Zm,Zn,Zt,Zv,Zw,Zx,Zy,Zz,Z0,Z1,Z3,Jj,Jk,Jm,Jn,Jo,Jr,Js,Ju,Jv,J7,Kv,Kw,Kx,Ua,Ub,Uc,Ud,Ue,Uf,Ug,Us,Ut,Uw,Ux,U0,U4,U5,U6,U7,Va,Vb,Ve,Vi,Vj,Vk,Vl,Vm,Vn,Vo,Vp,Vq,Vr,Vs,Vt,Vu,Vv,Vw,Vx,Vy,Vz,V0,Hh,Hi,Hk,Hl,Ho,Hp,Hq,Hr,Hs,Hu,Hv,Hw,H0,H1,H2,H3,H4,H5,H6,H8,Nc,Ng,Nh,Ni,Nk,Nl,Nm,Nn,No,Nq,Nu,Nx,Nz,N2,Be,Bg,q12R0.eq_1,q12R1.eq_1,q12R2.eq_1,q12R3.eq_1,q12R4.eq_1,q12R5.eq_1,q12R6.eq_1,q12R7.eq_1,q12R8.eq_1,q12R9.eq_1,q12R10.eq_1,q12R11.eq_1,q12R13.eq_1,q12R14.eq_1,q12R16.eq_1,q12R17.eq_1,q12R15.eq_1,q12R12.eq_1,q12R18.eq_1,q12R19.eq_1,q12R21.eq_1,q12R22.eq_1,q12R23.eq_1,q12R24.eq_1,q12R25.eq_1,q12R26.eq_1,q12R27.eq_1,q12R28.eq_1,q12R29.eq_1,q12R30.eq_1,q12R31.eq_1,q12R32.eq_1,q12R20.eq_1,q12R33.eq_1,c_law28_MergeBytes.eq_1,c_law28_MergeBytes_L1.eq_1,hln,hg,hi2,hbl,q1,hwr,b1,a1,a2,a3,a4,q5,q6]; tactic => (refine ih _ (by omega) ?_; (sym => simp [Qa,Qc,Qd,Qe,Qi,Qj,Qr,Qt,Qz,Q0,Q2,Q4,Q5,Xa,Xp,Xs,Xy,X0,X5,Ya,Yh,Yk,Yr,Ys,Yt,Yw,Yy,Y2,Y9,Za,Zb,Zc,Zd,Ze,Zg,Zh,Zk,Zl,Zm,Zn,Zt,Zv,Zw,Zx,Zy,Zz,Z0,Z1,Z3,Jj,Jk,Jm,Jn,Jo,Jr,Js,Ju,Jv,J7,Kv,Kw,Kx,Ua,Ub,Uc,Ud,Ue,Uf,Ug,Us,Ut,Uw,Ux,U0,U4,U5,U6,U7,Va,Vb,Ve,Vi,Vj,Vk,Vl,Vm,Vn,Vo,Vp,Vq,Vr,Vs,Vt,Vu,Vv,Vw,Vx,Vy,Vz,V0,Hh,Hi,Hk,Hl,Ho,Hp,Hq,Hr,Hs,Hu,Hv,Hw,H0,H1,H2,H3,H4,H5,H6,H8,Nc,Ng,Nh,Ni,Nk,Nl,Nm,Nn,No,Nq,Nu,Nx,Nz,N2,Be,Bg,a1,a2,ints_one,byt_one])))
/-- All bytes of a queue, with whose they are. -/
def pairs (q : List Pc) : List (Int × Int) := q.flatMap fun x => x.2.2.1.map fun b => (x.1, b)
theorem pairs_take {q : List Pc} {i : Nat} (hi : i < q.length) : pairs (q.take (i + 1)) = pairs (q.take i) ++ q[i].2.2.1.map fun x => (q[i].1, x) := by
  have e : q.take (i + 1) = q.take i ++ [q[i]] := by rw [List.take_add_one, List.getElem?_eq_getElem hi]; rfl
  unfold pairs
  rw [e, List.flatMap_append, List.flatMap_cons, List.flatMap_nil, List.append_nil]
theorem pairs_len : ∀ (q : List Pc), (∀ x ∈ q, x.2.2.1.length ≤ 100) → (pairs q).length ≤ 100 * q.length
  | [], _ => Nat.le_refl _
  | x :: q, h => by
    have h1 := h x (by simp)
    have h2 := pairs_len q (fun y hy => h y (by simp [hy]))
    have : pairs (x :: q) = (x.2.2.1.map fun b => (x.1, b)) ++ pairs q := rfl
    rw [this, List.length_append, List.length_map, List.length_cons]
    omega
theorem fill_out (q : List Pc) (f : Bool) (left : Int) (hl : q.length ≤ 100) (hb : ∀ x ∈ q, x.2.2.1.length ≤ 100) (hmay : ∀ b f, aP G FT n_ref28_May [.data b 3 (pcs q) f] = some (.bool true)) : ∀ m i, i + m = q.length → ∀ st,
    agc 0 [0, 3, 4, 5, 6, 7, 8] st = some ⟨[(0, .data false 3 (pcs q) f), (3, .ptr 0 0 0 0), (4, .ptr 1 0 0 0), (5, .fn (.func n_merge_Bytes_1) [] [.ptr 2 0 0 0]), (6, .ptr 3 0 0 0), (7, .ptr 4 0 0 0), (8, .int .i64 i)], hpB left q f (pairs (q.take i))⟩ →
    aE G FT 0 lp_law28_MergeBytes_0 st = some (.exit 0, ⟨[(0, .data false 3 (pcs q) f), (3, .ptr 0 0 0 0), (4, .ptr 1 0 0 0), (5, .fn (.func n_merge_Bytes_1) [] [.ptr 2 0 0 0]), (6, .ptr 3 0 0 0), (7, .ptr 4 0 0 0), (8, .int .i64 q.length), (29, .bool false)], hpB left q f (pairs q)⟩) := by
  have hln := pcs_len q
  intro m
  induction m with
  | zero =>
    intro i hi st hgc
    obtain rfl : i = q.length := by omega
    have q1 : ¬ (q.length : Int) < q.length := by omega
    rw [List.take_length] at hgc
    rw [lp_law28_MergeBytes_0, y_loop, hgc]
    generalize hpB left q f (pairs q) = C
    (sym => simp [Qa,Qc,Qd,Qe,Qf,Qg,Qi,Qj,Qm,Qn,Qo,Qr,Qt,Qu,Xa,Xy,X5,Ya,Yh,Y9,Za,Zb,Zc,Ze,Zg,Zh,Zk,Zl,Zm,Zn,Zo,Zt,Zv,Zw,Zx,Zy,Zz,Z0,Z3,Ja,Jj,Jk,Jm,Jn,Jo,Jq,Jr,Js,Ju,Jv,Us,Ut,Uw,Ux,U0,U4,U5,U6,U7,Va,Vb,Ve,Vi,Vj,Vk,Vl,Vm,Vn,Vo,Vp,Vq,Vr,Vs,Vt,Vu,Vv,Vw,Vx,Vy,Vz,V0,V9,Wd,We,Hh,Hi,Hp,Hu,Hv,Hw,H0,H1,H4,H5,H6,Nl,Nm,No,Nu,Nx,Be,q12R0.eq_1,q12R1.eq_1,q12R2.eq_1,q12R3.eq_1,q12R4.eq_1,q12R5.eq_1,q12R6.eq_1,q12R7.eq_1,q12R8.eq_1,q12R9.eq_1,q12R10.eq_1,q12R11.eq_1,q12R13.eq_1,q12R14.eq_1,q12R16.eq_1,q12R17.eq_1,q12R15.eq_1,q12R12.eq_1,q12R18.eq_1,q12R19.eq_1,q12R21.eq_1,q12R22.eq_1,q12R23.eq_1,q12R24.eq_1,q12R25.eq_1,q12R26.eq_1,q12R27.eq_1,q12R28.eq_1,q12R29.eq_1,q12R30.eq_1,q12R31.eq_1,q12R32.eq_1,q12R20.eq_1,q12R33.eq_1,c_law28_MergeBytes.eq_1,c_law28_MergeBytes_L0.eq_1,hln,q1,hmay])
  | succ m ih =>
    intro i hi st hgc
    have hlt : i < q.length := by omega
    have q1 : (i : Int) < q.length := by omega
    have hw := wrap_nat (n := i) (by omega)
    have hbi := hb _ (List.getElem_mem hlt)
    have hpl := pairs_len (q.take i) (fun x hx => hb x (List.mem_of_mem_take hx))
    rw [List.length_take] at hpl
    have hin := fill_in G q f left i hlt hbi q[i].2.2.1.length 0 (by omega) (pairs (q.take i)) ⟨[(0, .data false 3 (pcs q) f), (3, .ptr 0 0 0 0), (4, .ptr 1 0 0 0), (5, .fn (.func n_merge_Bytes_1) [] [.ptr 2 0 0 0]), (6, .ptr 3 0 0 0), (7, .ptr 4 0 0 0), (8, .int .i64 i), (9, .int .i64 0)], hpB left q f (pairs (q.take i))⟩ (by omega)
    have hgin : agc 0 [0, 3, 4, 5, 6, 7, 8, 9] ⟨[(0, .data false 3 (pcs q) f), (3, .ptr 0 0 0 0), (4, .ptr 1 0 0 0), (5, .fn (.func n_merge_Bytes_1) [] [.ptr 2 0 0 0]), (6, .ptr 3 0 0 0), (7, .ptr 4 0 0 0), (8, .int .i64 i), (9, .int .i64 0)], hpB left q f (pairs (q.take i))⟩ = some ⟨[(0, .data false 3 (pcs q) f), (3, .ptr 0 0 0 0), (4, .ptr 1 0 0 0), (5, .fn (.func n_merge_Bytes_1) [] [.ptr 2 0 0 0]), (6, .ptr 3 0 0 0), (7, .ptr 4 0 0 0), (8, .int .i64 i), (9, .int .i64 0)], hpB left q f (pairs (q.take i))⟩ := by
      generalize pairs (q.take i) = wh
      by_cases hn : wh = []
      · subst hn; simp only [hpB]; (sym => simp [Qa,Qc,Qd,Qe,Qf,Qg,Qi,Qj,Qm,Qn,Qo,Qr,Qt,Qu,Xa,Xy,X5,Ya,Yh,Y9,Za,Zb,Zc,Ze,Zg,Zh,Zk,Zl,Zm,Zn,Zo,Zt,Zv,Zw,Zx,Zy,Zz,Z0,Z3,Ja,Jj,Jk,Jm,Jn,Jo,Jq,Jr,Js,Ju,Jv,Us,Ut,Uw,Ux,U0,U4,U5,U6,U7,Va,Vb,Ve,Vi,Vj,Vk,Vl,Vm,Vn,Vo,Vp,Vq,Vr,Vs,Vt,Vu,Vv,Vw,Vx,Vy,Vz,V0,V9,Wd,We,Hh,Hi,Hp,Hu,Hv,Hw,H0,H1,H4,H5,H6,Nl,Nm,No,Nu,Nx,Be])
      · rw [hpB_cons left q f hn]; (sym => simp [Qa,Qc,Qd,Qe,Qf,Qg,Qi,Qj,Qm,Qn,Qo,Qr,Qt,Qu,Xa,Xy,X5,Ya,Yh,Y9,Za,Zb,Zc,Ze,Zg,Zh,Zk,Zl,Zm,Zn,Zo,Zt,Zv,Zw,Zx,Zy,Zz,Z0,Z3,Ja,Jj,Jk,Jm,Jn,Jo,Jq,Jr,Js,Ju,Jv,Us,Ut,Uw,Ux,U0,U4,U5,U6,U7,Va,Vb,Ve,Vi,Vj,Vk,Vl,Vm,Vn,Vo,Vp,Vq,Vr,Vs,Vt,Vu,Vv,Vw,Vx,Vy,Vz,V0,V9,Wd,We,Hh,Hi,Hp,Hu,Hv,Hw,H0,H1,H4,H5,H6,Nl,Nm,No,Nu,Nx,Be])
    have hin := hin hgin
    rw [List.drop_zero, ← pairs_take hlt] at hin
    have ih := ih (i + 1) (by omega)
    rw [lp_law28_MergeBytes_0] at ih
    rw [lp_law28_MergeBytes_0, y_loop, hgc]
    have hg1 : ∀ wh : List (Int × Int), agc 0 [0, 3, 4, 5, 6, 7, 8] ⟨[(0, .data false 3 (pcs q) f), (3, .ptr 0 0 0 0), (4, .ptr 1 0 0 0), (5, .fn (.func n_merge_Bytes_1) [] [.ptr 2 0 0 0]), (6, .ptr 3 0 0 0), (7, .ptr 4 0 0 0), (8, .int .i64 ((i : Int) + 1))], hpB left q f wh⟩ = some ⟨[(0, .data false 3 (pcs q) f), (3, .ptr 0 0 0 0), (4, .ptr 1 0 0 0), (5, .fn (.func n_merge_Bytes_1) [] [.ptr 2 0 0 0]), (6, .ptr 3 0 0 0), (7, .ptr 4 0 0 0), (8, .int .i64 ((i : Int) + 1))], hpB left q f wh⟩ := fun wh => by
      by_cases hn : wh = []
      · subst hn; simp only [hpB]; (sym => simp [Qa,Qc,Qd,Qe,Qf,Qg,Qi,Qj,Qm,Qn,Qo,Qr,Qt,Qu,Xa,Xy,X5,Ya,Yh,Y9,Za,Zb,Zc,Ze,Zg,Zh,Zk,Zl,Zm,Zn,Zo,Zt,Zv,Zw,Zx,Zy,Zz,Z0,Z3,Ja,Jj,Jk,Jm,Jn,Jo,Jq,Jr,Js,Ju,Jv,Us,Ut,Uw,Ux,U0,U4,U5,U6,U7,Va,Vb,Ve,Vi,Vj,Vk,Vl,Vm,Vn,Vo,Vp,Vq,Vr,Vs,Vt,Vu,Vv,Vw,Vx,Vy,Vz,V0,V9,Wd,We,Hh,Hi,Hp,Hu,Hv,Hw,H0,H1,H4,H5,H6,Nl,Nm,No,Nu,Nx,Be])
      · rw [hpB_cons left q f hn]; (sym => simp [Qa,Qc,Qd,Qe,Qf,Qg,Qi,Qj,Qm,Qn,Qo,Qr,Qt,Qu,Xa,Xy,X5,Ya,Yh,Y9,Za,Zb,Zc,Ze,Zg,Zh,Zk,Zl,Zm,Zn,Zo,Zt,Zv,Zw,Zx,Zy,Zz,Z0,Z3,Ja,Jj,Jk,Jm,Jn,Jo,Jq,Jr,Js,Ju,Jv,Us,Ut,Uw,Ux,U0,U4,U5,U6,U7,Va,Vb,Ve,Vi,Vj,Vk,Vl,Vm,Vn,Vo,Vp,Vq,Vr,Vs,Vt,Vu,Vv,Vw,Vx,Vy,Vz,V0,V9,Wd,We,Hh,Hi,Hp,Hu,Hv,Hw,H0,H1,H4,H5,H6,Nl,Nm,No,Nu,Nx,Be])
    generalize hpB left q f (pairs (q.take i)) = C at hin ⊢
    generalize hD : hpB left q f (pairs (q.take (i + 1))) = D at hin
    (sym => simp [Qa,Qc,Qd,Qe,Qf,Qg,Qi,Qj,Qm,Qn,Qo,Qr,Qt,Qu,Xa,Xy,X5,Ya,Yh,Y9,Za,Zb,Zc,Ze,Zg,Zh,Zk,Zl,Zm,Zn,Zo,Zt,Zv,Zw,Zx,Zy,Zz,Z0,Z3,Ja,Jj,Jk,Jm,Jn,Jo,Jq,Jr,Js,Ju,Jv,Us,Ut,Uw,Ux,U0,U4,U5,U6,U7,Va,Vb,Ve,Vi,Vj,Vk,Vl,Vm,Vn,Vo,Vp,Vq,Vr,Vs,Vt,Vu,Vv,Vw,Vx,Vy,Vz,V0,V9,Wd,We,Hh,Hi,Hp,Hu,Hv,Hw,H0,H1,H4,H5,H6,Nl,Nm,No,Nu,Nx,Be,q12R0.eq_1,q12R1.eq_1,q12R2.eq_1,q12R3.eq_1,q12R4.eq_1,q12R5.eq_1,q12R6.eq_1,q12R7.eq_1,q12R8.eq_1,q12R9.eq_1,q12R10.eq_1,q12R11.eq_1,q12R13.eq_1,q12R14.eq_1,q12R16.eq_1,q12R17.eq_1,q12R15.eq_1,q12R12.eq_1,q12R18.eq_1,q12R19.eq_1,q12R21.eq_1,q12R22.eq_1,q12R23.eq_1,q12R24.eq_1,q12R25.eq_1,q12R26.eq_1,q12R27.eq_1,q12R28.eq_1,q12R29.eq_1,q12R30.eq_1,q12R31.eq_1,q12R32.eq_1,q12R20.eq_1,q12R33.eq_1,c_law28_MergeBytes.eq_1,c_law28_MergeBytes_L0.eq_1,hln,q1,hmay,hw,hin]; tactic => (refine ih _ ?_; rw [← hD]; exact hg1 _))
end Go.Proofs.Ytfnonledcniojaa
