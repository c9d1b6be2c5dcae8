/- Sessions: settled. Conditions: as each statement says. -/
import Derived.Test.YthcnhibjddomdaaSe6
set_option linter.unusedVariables false
set_option linter.unusedSimpArgs false
set_option linter.unusedSectionVars false
set_option maxRecDepth 20000
set_option maxHeartbeats 8000000
namespace Go.Proofs.Ythcnhibjddomdaa
open Go
variable (G : Nat → Option (List AV))
theorem settled_loop (C Z : List AV) (l : List (Int × Int)) (f : Bool) (hl : l.length ≤ 1000) : ∀ (m i : Nat) (out : List Int), i + m = l.length → out.length = i → ∀ st, agc 0 [1, 2, 3, 18, 19, 20] st = some ⟨[(1, .ptr 0 0 0 0), (2, .ptr 1 0 0 0), (3, .own 2 0 0 i i), (18, .data false 2 (mbs l) f), (19, .int .i64 l.length), (20, .int .i64 i)], [⟨33, 0, true, [C]⟩, ⟨33, 0, true, [Z]⟩, ⟨1, 0, true, ints out⟩]⟩ →
    aE G FT 0 lp_session_settled_0 st = some (.exit 0, ⟨[(1, .ptr 0 0 0 0), (2, .ptr 1 0 0 0), (3, .own 2 0 0 l.length l.length), (18, .data false 2 (mbs l) f), (19, .int .i64 l.length), (20, .int .i64 l.length), (21, .bool false)], [⟨33, 0, true, [C]⟩, ⟨33, 0, true, [Z]⟩, ⟨1, 0, true, ints (out ++ (l.drop i).map (·.1))⟩]⟩) := by
  intro m
  induction m with
  | zero =>
    intro i out hi ho st hst
    rw [lp_session_settled_0, y_loop, hst]
    obtain rfl : i = l.length := by omega
    have e0 : decide ((l.length : Int) < l.length) = false := by simp
    rw [List.drop_length, List.map_nil, List.append_nil]
    (sym => simp [Qa,Qc,Qd,Qe,Qi,Qj,Qr,Qt,Qv,Qz,Q0,Q2,Q4,Q5,Xa,Xp,Xs,X0,X5,Ya,Yk,Yr,Ys,Yt,Yu,Yv,Yy,Y2,Y9,Za,Zb,Zc,Zd,Ze,Zg,Zh,Zk,Zl,Zm,Zn,Zt,Zv,Zw,Zx,Zy,Zz,Z0,Z1,Z3,Jj,Jk,Jm,Jn,Jo,Jr,Js,Ju,Jv,J1,J2,Kv,Kx,Ua,Ub,Uc,Ud,Ue,Uf,Ug,Us,Ut,Ux,U0,U4,U5,U6,U7,Vb,Ve,Vk,Vm,Vo,Vp,Vq,Vr,Vs,Vt,Vu,Vv,Vw,Vx,Vy,Vz,V0,Hh,Hi,Hk,Hl,Ho,Hp,Hq,Hr,Hs,Ht,Hu,Hv,Hw,H1,H2,H3,H4,H5,H6,H8,Ng,Nh,Ni,Nk,Nl,No,Nu,Nx,Nz,N0,N2,Be,Bg,q50R0.eq_1,q50R1.eq_1,q50R2.eq_1,q50R3.eq_1,q50R4.eq_1,q50R5.eq_1,q50R6.eq_1,q50R7.eq_1,q50R8.eq_1,q50R9.eq_1,q50R10.eq_1,c_session_settled.eq_1,c_session_settled_L0.eq_1,e0])
  | succ m ih =>
    intro i out hi ho st hst
    have hlt : i < l.length := by omega
    have hlt' : (i : Int) < l.length := by omega
    have e : l.drop i = l[i] :: l.drop (i + 1) := List.drop_eq_getElem_cons hlt
    have hw := wrap_nat (n := i) (by omega)
    have hg := mbs_at hlt
    have hln := mbs_len l
    have hlo := ints_len out
    rw [ho] at hlo
    have b1 : (i + 1) * 8 ≤ 140737488355328 := by omega
    have n1 : i + 1 ≤ i ↔ False := by simp
    have tk : List.take i (ints out) = ints out := List.take_of_length_le (by omega)
    have ih := ih (i + 1) (out ++ [l[i].1]) (by omega) (by simp [ho])
    have e2 : out ++ (l[i] :: l.drop (i + 1)).map (·.1) = out ++ [l[i].1] ++ (l.drop (i + 1)).map (·.1) := by rw [List.map_cons, List.append_assoc, List.singleton_append]
    rw [e, e2]
    rw [lp_session_settled_0] at ih
    rw [lp_session_settled_0, y_loop, hst]
    generalize out ++ [l[i].1] ++ (l.drop (i + 1)).map (·.1) = R at ih ⊢
    rw [ints_append, ints_cons, ints_nil] at ih
    (sym => simp [Qa,Qc,Qd,Qe,Qi,Qj,Qr,Qt,Qv,Qz,Q0,Q2,Q4,Q5,Xa,Xp,Xs,X0,X5,Ya,Yk,Yr,Ys,Yt,Yu,Yv,Yy,Y2,Y9,Za,Zb,Zc,Zd,Ze,Zg,Zh,Zk,Zl,Zm,Zn,Zt,Zv,Zw,Zx,Zy,Zz,Z0,Z1,Z3,Jj,Jk,Jm,Jn,Jo,Jr,Js,Ju,Jv,J1,J2,Kv,Kx,Ua,Ub,Uc,Ud,Ue,Uf,Ug,Us,Ut,Ux,U0,U4,U5,U6,U7,Vb,Ve,Vk,Vm,Vo,Vp,Vq,Vr,Vs,Vt,Vu,Vv,Vw,Vx,Vy,Vz,V0,Hh,Hi,Hk,Hl,Ho,Hp,Hq,Hr,Hs,Ht,Hu,Hv,Hw,H1,H2,H3,H4,H5,H6,H8,Ng,Nh,Ni,Nk,Nl,No,Nu,Nx,Nz,N0,N2,Be,Bg,q50R0.eq_1,q50R1.eq_1,q50R2.eq_1,q50R3.eq_1,q50R4.eq_1,q50R5.eq_1,q50R6.eq_1,q50R7.eq_1,q50R8.eq_1,q50R9.eq_1,q50R10.eq_1,c_session_settled.eq_1,c_session_settled_L0.eq_1,hlt',hg,hln,hlo,hw,b1,n1,tk]; tactic => (
      refine ih _ ?_
      (sym => simp [Qa,Qc,Qd,Qe,Qi,Qj,Qr,Qt,Qv,Qz,Q0,Q2,Q4,Q5,Xa,Xp,Xs,X0,X5,Ya,Yk,Yr,Ys,Yt,Yu,Yv,Yy,Y2,Y9,Za,Zb,Zc,Zd,Ze,Zg,Zh,Zk,Zl,Zm,Zn,Zt,Zv,Zw,Zx,Zy,Zz,Z0,Z1,Z3,Jj,Jk,Jm,Jn,Jo,Jr,Js,Ju,Jv,J1,J2,Kv,Kx,Ua,Ub,Uc,Ud,Ue,Uf,Ug,Us,Ut,Ux,U0,U4,U5,U6,U7,Vb,Ve,Vk,Vm,Vo,Vp,Vq,Vr,Vs,Vt,Vu,Vv,Vw,Vx,Vy,Vz,V0,Hh,Hi,Hk,Hl,Ho,Hp,Hq,Hr,Hs,Ht,Hu,Hv,Hw,H1,H2,H3,H4,H5,H6,H8,Ng,Nh,Ni,Nk,Nl,No,Nu,Nx,Nz,N0,N2,Be,Bg,hlo])))
theorem tl_w (s : Ses) : (tl s).take 18 = cellsW s.w := rfl
theorem tl_18 (s : Ses) : (tl s)[18]? = some (.int .i64 s.r) := rfl
theorem tl_19 (s : Ses) : (tl s)[19]? = some (.int .i64 s.c) := rfl
def idsL (l : List (Int × Int)) : List Int := l.map (·.1)
/-- Settled. -/
def stS (s : Ses) : Ses :=
  { s with h := (keepT s.h s.tq (if mayM s.mem = true then writersM s.mem else [])).1, tq := (keepT s.h s.tq (if mayM s.mem = true then writersM s.mem else [])).2.1, r := (leastW s.w (idsL s.mem) s.r s.c).1, c := (leastW s.w (idsL s.mem) s.r s.c).2, f1 := false, f2 := false, f3 := false }
theorem settled_P (s : Ses) (h : okS s) : aP G FT n_session_settled [.agg (sC s)] = some (.agg (sC (stS s))) := by
  obtain ⟨hl1, hl2, hl3⟩ := h
  have hWr := fun b f => writers_P G s.mem b f (by omega)
  have hwl : (if mayM s.mem = true then writersM s.mem else []).length ≤ 1000 := by
    split
    · unfold writersM; rw [List.length_map]; exact Nat.le_trans (List.length_filter_le _ _) hl1
    · simp
  have hK := fun b f b2 f2 => keep_P G s.h s.tq (if mayM s.mem = true then writersM s.mem else []) b f b2 f2 hl2 hwl
  have hKh : (stS s).h = (keepT s.h s.tq (if mayM s.mem = true then writersM s.mem else [])).1 := rfl
  have hKt : (stS s).tq = (keepT s.h s.tq (if mayM s.mem = true then writersM s.mem else [])).2.1 := rfl
  generalize hKv : keepT s.h s.tq (if mayM s.mem = true then writersM s.mem else []) = K at hK hKh hKt
  generalize (if mayM s.mem = true then writersM s.mem else []) = ws at hWr hK hKv
  simp only [tokV] at hK
  have hLe := fun b f => least_P G s.w (idsL s.mem) b f s.r s.c (by unfold idsL; rw [List.length_map]; omega)
  have key := fun C Z => settled_loop G C Z s.mem s.f1 hl1 s.mem.length 0 [] (by omega) rfl
  simp only [List.drop_zero, List.nil_append, ints_nil, Int.natCast_zero] at key
  have t1 := tl_len s
  have t2 := tl_ids s
  have t3 := tl_st s
  have t4 := tl_v s
  have t5 := tl_f s
  have t6 := tl_ren s
  have t7 := tl_take s
  have t8 := tl_w s
  have t9 := tl_18 s
  have u0 := tl_19 s
  have m1 := mbs_len s.mem
  have x0 : ((tl s).set 18 (.int .i64 (leastW s.w (idsL s.mem) s.r s.c).1)).set 19 (.int .i64 (leastW s.w (idsL s.mem) s.r s.c).2) = tl (stS s) := rfl
  have x1 := tl_len (stS s)
  have x3 := tl_st (stS s)
  have x4 := tl_v (stS s)
  have x5 := tl_f (stS s)
  have x7 := tl_take (stS s)
  have eS : sC (stS s) = .data false 2 (mbs s.mem) false :: .int .i64 (stS s).h :: .data false 1 (ints (stS s).tq) false :: .data false 3 (pcs s.q) false :: tl (stS s) := rfl
  have eh : (stS s).h = K.1 := hKh
  have et : (stS s).tq = K.2.1 := hKt
  rw [eS, eh, et, sC_eq]
  generalize tl (stS s) = T2 at *
  generalize tl s = T at *
  unfold aP
  rw [run_session_settled]
  have keyD : ∀ C Z, aE G FT 0 lp_session_settled_0 ⟨[(1, .ptr 0 0 0 0), (2, .ptr 1 0 0 0), (3, .own 2 0 0 0 0), (18, .data false 2 (mbs s.mem) s.f1), (19, .int .i64 s.mem.length), (20, .int .i64 0)], [⟨33, 0, true, [C]⟩, ⟨33, 0, true, [Z]⟩, ⟨1, 0, true, []⟩]⟩ =
      some (.exit 0, ⟨[(1, .ptr 0 0 0 0), (2, .ptr 1 0 0 0), (3, .own 2 0 0 s.mem.length s.mem.length), (18, .data false 2 (mbs s.mem) s.f1), (19, .int .i64 s.mem.length), (20, .int .i64 s.mem.length), (21, .bool false)], [⟨33, 0, true, [C]⟩, ⟨33, 0, true, [Z]⟩, ⟨1, 0, true, ints (idsL s.mem)⟩]⟩) := fun C Z => key C Z _ (by (sym => simp [Qb,Qd,Qe,Qi,Qj,Qm,Qn,Qo,Qr,Qs,Qv,Qw,Qx,Qy,Q1,Q4,Q5,Xp,Xt,Xw,Xx,Xy,Yh,Yj,Yk,Yr,Yt,Yu,Yv,Yz,Y1,Y5,Y8,Y9,Za,Zb,Zc,Zd,Ze,Zg,Zh,Zi,Zj,Zk,Zl,Zm,Zn,Zo,Zr,Zs,Zt,Zu,Zv,Zw,Zx,Zy,Zz,Z0,Z1,Z3,Jj,Jk,Jn,Jq,Jv,Jx,J1,J2,J3,K8,K9,Ue,Uf,Ug,Ul,Us,Ut,Ux,U0,U4,U5,U6,U7,Vb,Ve,Vk,Vm,Vo,Vp,Vq,Vr,Vs,Vt,Vu,Vv,Vw,Vx,Vy,Vz,V0,V1,V3,V6,V9,Wd,We,Wg,Wh,Wj,Wq,Hh,Hi,Hk,Hl,Hn,Ho,Hp,Hr,Hs,Ht,Hu,Hv,Hw,Hz,H1,H4,H5,H6,H8,Ng,Nl,No,Nu,Nx,Nz,N0,Be,Bh,Bi,BD,BE,BF,BG,BH,BI,BK,BL,BM,BN,BO,BP,BQ,BY]))
  have v1 := cW_v s.w
  have n3 : (ints (idsL s.mem)).length = s.mem.length := by rw [ints_len, idsL, List.length_map]
  have k3 : List.take s.mem.length (ints (idsL s.mem)) = ints (idsL s.mem) := List.take_of_length_le (by omega)
  (sym => simp [Qb,Qd,Qe,Qi,Qj,Qm,Qn,Qo,Qr,Qs,Qv,Qw,Qx,Qy,Q1,Q4,Q5,Xp,Xt,Xw,Xx,Xy,Yh,Yj,Yk,Yr,Yt,Yu,Yv,Yz,Y1,Y5,Y8,Y9,Za,Zb,Zc,Zd,Ze,Zg,Zh,Zi,Zj,Zk,Zl,Zm,Zn,Zo,Zr,Zs,Zt,Zu,Zv,Zw,Zx,Zy,Zz,Z0,Z1,Z3,Jj,Jk,Jn,Jq,Jv,Jx,J1,J2,J3,K8,K9,Ue,Uf,Ug,Ul,Us,Ut,Ux,U0,U4,U5,U6,U7,Vb,Ve,Vk,Vm,Vo,Vp,Vq,Vr,Vs,Vt,Vu,Vv,Vw,Vx,Vy,Vz,V0,V1,V3,V6,V9,Wd,We,Wg,Wh,Wj,Wq,Hh,Hi,Hk,Hl,Hn,Ho,Hp,Hr,Hs,Ht,Hu,Hv,Hw,Hz,H1,H4,H5,H6,H8,Ng,Nl,No,Nu,Nx,Nz,N0,Be,Bh,Bi,BD,BE,BF,BG,BH,BI,BK,BL,BM,BN,BO,BP,BQ,BY,q50R0.eq_1,q50R1.eq_1,q50R2.eq_1,q50R3.eq_1,q50R4.eq_1,q50R5.eq_1,q50R6.eq_1,q50R7.eq_1,q50R8.eq_1,q50R9.eq_1,q50R10.eq_1,c_session_settled.eq_1,hWr,hK,keyD,hLe,t1,t2,t3,t4,t5,t6,t7,t8,t9,u0,m1,n3,k3,v1,x0,x1,x3,x4,x5,x7])
end Go.Proofs.Ythcnhibjddomdaa
