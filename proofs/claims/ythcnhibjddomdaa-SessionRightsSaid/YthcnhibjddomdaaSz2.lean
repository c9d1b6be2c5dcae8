/- What size.Least comes to. Conditions: none. -/
import Derived.Test.YthcnhibjddomdaaSz1
set_option linter.unusedVariables false
set_option linter.unusedSimpArgs false
set_option linter.unusedSectionVars false
set_option maxRecDepth 20000
set_option maxHeartbeats 1000000
namespace Go.Proofs.Ythcnhibjddomdaa
open Go
variable (G : Nat → Option (List AV))
/-- What one member's window does. -/
def stepW (w : Nat → Int × Int) (s : Bool × Int × Int) (id : Int) : Bool × Int × Int :=
  if memB id = true ∧ ¬ ((w id.toNat).1 = 0 ∧ (w id.toNat).2 = 0) then (true, min s.2.1 (w id.toNat).1, min s.2.2 (w id.toNat).2) else s
def lstW (w : Nat → Int × Int) (ids : List Int) : Bool × Int × Int := ids.foldl (stepW w) (false, 24, 40)
def rowsL (w : Nat → Int × Int) (l0 l1 r c : Int) : List ARow := [⟨18, 0, true, [cellsW w]⟩, ⟨2, 0, true, [[.int .i64 l0, .int .i64 l1]]⟩, ⟨2, 0, true, [[.int .i64 0, .int .i64 0]]⟩, ⟨2, 0, true, [[.int .i64 r, .int .i64 c]]⟩]
theorem least_loop (w : Nat → Int × Int) (l0 l1 : Int) (b f : Bool) (l : List Int) (hl : l.length < 9223372036854775807) : ∀ (m i : Nat) (s : Bool × Int × Int), i + m = l.length →
    aE G FT 0 lp_size_Least_0 ⟨[(3, .ptr 0 0 0 0), (5, .ptr 1 0 0 0), (6, .ptr 2 0 0 0), (7, .ptr 3 0 0 0), (8, .bool s.1), (17, .data b 1 (ints l) f), (18, .int .i64 l.length), (19, .int .i64 i)], rowsL w l0 l1 s.2.1 s.2.2⟩ =
      some (.exit 0, ⟨[(3, .ptr 0 0 0 0), (5, .ptr 1 0 0 0), (6, .ptr 2 0 0 0), (7, .ptr 3 0 0 0), (8, .bool ((l.drop i).foldl (stepW w) s).1), (17, .data b 1 (ints l) f), (18, .int .i64 l.length), (19, .int .i64 l.length), (20, .bool false)],
        rowsL w l0 l1 ((l.drop i).foldl (stepW w) s).2.1 ((l.drop i).foldl (stepW w) s).2.2⟩) := by
  intro m
  induction m with
  | zero =>
    intro i s hi
    rw [lp_size_Least_0, y_loop]
    have e : l.drop i = [] := List.drop_eq_nil_of_le (by omega)
    have ei : i = l.length := by omega
    subst ei
    have e0 : decide ((l.length : Int) < l.length) = false := by simp
    rw [e, List.foldl_nil]
    obtain ⟨t, r, c⟩ := s
    unfold rowsL
    (sym => simp [Qa,Qc,Qd,Qe,Qf,Qg,Qi,Qj,Qm,Qn,Qo,Qr,Qt,Qu,Qx,Q1,Q4,Q5,Xa,Xb,Xd,Xs,Xt,X4,X5,Ya,Ye,Yr,Ys,Yt,Yu,Yy,Yz,Y9,Za,Zb,Zc,Zd,Ze,Zg,Zh,Zk,Zl,Zm,Zn,Zo,Zt,Zv,Zw,Zx,Zy,Zz,Z0,Z1,Z3,Jb,Jh,Jj,Jk,Jm,Jn,Jo,Jq,Jr,Js,Ju,Jv,J3,Kh,Kk,Kl,Km,K8,Ut,Ux,Uy,U0,U4,U5,U7,Vb,Vc,Ve,Vk,Vm,Vo,Vp,Vq,Vr,Vs,Vt,Vu,Vv,Vw,Vx,Vy,Vz,V0,V6,Wd,We,Hh,Hi,Hk,Hl,Hp,Hu,Hv,Hw,H1,H4,H5,H6,H8,H9,Ni,Nk,Nl,Nm,Nn,No,Nq,Nr,Nu,Nw,Nx,Nz,Be,Bh,Bi,q53R0.eq_1,q53R1.eq_1,q53R2.eq_1,q53R3.eq_1,q53R4.eq_1,q53R5.eq_1,q53R6.eq_1,q53R7.eq_1,q53R8.eq_1,q53R9.eq_1,q53R10.eq_1,q53R11.eq_1,q53R12.eq_1,q53R13.eq_1,q53R14.eq_1,q53R15.eq_1,q53R16.eq_1,q53R17.eq_1,c_size_Least.eq_1,c_size_Least_L0.eq_1,e0])
  | succ m ih =>
    intro i s hi
    have hlt : i < l.length := by omega
    have hlt' : (i : Int) < l.length := by omega
    have e : l.drop i = l[i] :: l.drop (i + 1) := List.drop_eq_getElem_cons hlt
    have hw := wrap_nat (n := i) (by omega)
    have hg := ints_at hlt
    rw [e, List.foldl_cons]
    have hN := member_P G
    generalize l[i] = x at hg
    have ih := ih (i + 1) (stepW w s x) (by omega)
    rw [← ih]
    rw [lp_size_Least_0, y_loop]
    obtain ⟨t, r, c⟩ := s
    have cl := cW_len w
    have cs := cW_st w
    have hw1 : IntKind.i64.wrap 1 = 1 := by decide
    have hw2 : IntKind.i64.wrap 2 = 2 := by decide
    by_cases hm : memB x = true
    · obtain ⟨h1, h8⟩ := (memB_iff x).1 hm
      have h0 : 0 ≤ x := by omega
      have h9 : x < 9 := by omega
      have hn9 : x.toNat < 9 := by omega
      have hc := cW_cut w hn9
      have hc0 := cW_0 w hn9
      have hc1 := cW_1 w hn9
      have q1 : x.toNat * 2 + 2 ≤ 18 := by omega
      have q2 : x.toNat * 2 < 18 := by omega
      have q3 : x.toNat * 2 + 1 < 18 := by omega
      by_cases ha : (w x.toNat).1 = 0
      · by_cases hb : (w x.toNat).2 = 0
        · have hst : stepW w (t, r, c) x = (t, r, c) := by simp [stepW, ha, hb]
          rw [hst]
          unfold rowsL
          (sym => simp [Qa,Qc,Qd,Qe,Qf,Qg,Qi,Qj,Qm,Qn,Qo,Qr,Qt,Qu,Qx,Q1,Q4,Q5,Xa,Xb,Xd,Xs,Xt,X4,X5,Ya,Ye,Yr,Ys,Yt,Yu,Yy,Yz,Y9,Za,Zb,Zc,Zd,Ze,Zg,Zh,Zk,Zl,Zm,Zn,Zo,Zt,Zv,Zw,Zx,Zy,Zz,Z0,Z1,Z3,Jb,Jh,Jj,Jk,Jm,Jn,Jo,Jq,Jr,Js,Ju,Jv,J3,Kh,Kk,Kl,Km,K8,Ut,Ux,Uy,U0,U4,U5,U7,Vb,Vc,Ve,Vk,Vm,Vo,Vp,Vq,Vr,Vs,Vt,Vu,Vv,Vw,Vx,Vy,Vz,V0,V6,Wd,We,Hh,Hi,Hk,Hl,Hp,Hu,Hv,Hw,H1,H4,H5,H6,H8,H9,Ni,Nk,Nl,Nm,Nn,No,Nq,Nr,Nu,Nw,Nx,Nz,Be,Bh,Bi,q53R0.eq_1,q53R1.eq_1,q53R2.eq_1,q53R3.eq_1,q53R4.eq_1,q53R5.eq_1,q53R6.eq_1,q53R7.eq_1,q53R8.eq_1,q53R9.eq_1,q53R10.eq_1,q53R11.eq_1,q53R12.eq_1,q53R13.eq_1,q53R14.eq_1,q53R15.eq_1,q53R16.eq_1,q53R17.eq_1,c_size_Least.eq_1,c_size_Least_L0.eq_1,hlt',hg,hN,hm,h0,h9,hc,cl,cs,q1,ha,hb,hw])
        · have hst : stepW w (t, r, c) x = (true, min r (w x.toNat).1, min c (w x.toNat).2) := by simp [stepW, hm, hb]
          rw [hst]
          unfold rowsL
          (sym => simp [Qa,Qc,Qd,Qe,Qf,Qg,Qi,Qj,Qm,Qn,Qo,Qr,Qt,Qu,Qx,Q1,Q4,Q5,Xa,Xb,Xd,Xs,Xt,X4,X5,Ya,Ye,Yr,Ys,Yt,Yu,Yy,Yz,Y9,Za,Zb,Zc,Zd,Ze,Zg,Zh,Zk,Zl,Zm,Zn,Zo,Zt,Zv,Zw,Zx,Zy,Zz,Z0,Z1,Z3,Jb,Jh,Jj,Jk,Jm,Jn,Jo,Jq,Jr,Js,Ju,Jv,J3,Kh,Kk,Kl,Km,K8,Ut,Ux,Uy,U0,U4,U5,U7,Vb,Vc,Ve,Vk,Vm,Vo,Vp,Vq,Vr,Vs,Vt,Vu,Vv,Vw,Vx,Vy,Vz,V0,V6,Wd,We,Hh,Hi,Hk,Hl,Hp,Hu,Hv,Hw,H1,H4,H5,H6,H8,H9,Ni,Nk,Nl,Nm,Nn,No,Nq,Nr,Nu,Nw,Nx,Nz,Be,Bh,Bi,q53R0.eq_1,q53R1.eq_1,q53R2.eq_1,q53R3.eq_1,q53R4.eq_1,q53R5.eq_1,q53R6.eq_1,q53R7.eq_1,q53R8.eq_1,q53R9.eq_1,q53R10.eq_1,q53R11.eq_1,q53R12.eq_1,q53R13.eq_1,q53R14.eq_1,q53R15.eq_1,q53R16.eq_1,q53R17.eq_1,c_size_Least.eq_1,c_size_Least_L0.eq_1,c_size_Least_L1.eq_1,hlt',hg,hN,hm,h0,h9,hc,hc0,hc1,cl,cs,q1,q2,q3,ha,hb,hw,lp_size_Least_1.eq_1,y_loop,hw1,hw2])
      · have hst : stepW w (t, r, c) x = (true, min r (w x.toNat).1, min c (w x.toNat).2) := by simp [stepW, hm, ha]
        rw [hst]
        unfold rowsL
        (sym => simp [Qa,Qc,Qd,Qe,Qf,Qg,Qi,Qj,Qm,Qn,Qo,Qr,Qt,Qu,Qx,Q1,Q4,Q5,Xa,Xb,Xd,Xs,Xt,X4,X5,Ya,Ye,Yr,Ys,Yt,Yu,Yy,Yz,Y9,Za,Zb,Zc,Zd,Ze,Zg,Zh,Zk,Zl,Zm,Zn,Zo,Zt,Zv,Zw,Zx,Zy,Zz,Z0,Z1,Z3,Jb,Jh,Jj,Jk,Jm,Jn,Jo,Jq,Jr,Js,Ju,Jv,J3,Kh,Kk,Kl,Km,K8,Ut,Ux,Uy,U0,U4,U5,U7,Vb,Vc,Ve,Vk,Vm,Vo,Vp,Vq,Vr,Vs,Vt,Vu,Vv,Vw,Vx,Vy,Vz,V0,V6,Wd,We,Hh,Hi,Hk,Hl,Hp,Hu,Hv,Hw,H1,H4,H5,H6,H8,H9,Ni,Nk,Nl,Nm,Nn,No,Nq,Nr,Nu,Nw,Nx,Nz,Be,Bh,Bi,q53R0.eq_1,q53R1.eq_1,q53R2.eq_1,q53R3.eq_1,q53R4.eq_1,q53R5.eq_1,q53R6.eq_1,q53R7.eq_1,q53R8.eq_1,q53R9.eq_1,q53R10.eq_1,q53R11.eq_1,q53R12.eq_1,q53R13.eq_1,q53R14.eq_1,q53R15.eq_1,q53R16.eq_1,q53R17.eq_1,c_size_Least.eq_1,c_size_Least_L0.eq_1,c_size_Least_L1.eq_1,hlt',hg,hN,hm,h0,h9,hc,hc0,hc1,cl,cs,q1,q2,q3,ha,hw,lp_size_Least_1.eq_1,y_loop,hw1,hw2])
    · have hst : stepW w (t, r, c) x = (t, r, c) := by simp [stepW, hm]
      rw [hst]
      have hm' : memB x = false := by simpa using hm
      unfold rowsL
      (sym => simp [Qa,Qc,Qd,Qe,Qf,Qg,Qi,Qj,Qm,Qn,Qo,Qr,Qt,Qu,Qx,Q1,Q4,Q5,Xa,Xb,Xd,Xs,Xt,X4,X5,Ya,Ye,Yr,Ys,Yt,Yu,Yy,Yz,Y9,Za,Zb,Zc,Zd,Ze,Zg,Zh,Zk,Zl,Zm,Zn,Zo,Zt,Zv,Zw,Zx,Zy,Zz,Z0,Z1,Z3,Jb,Jh,Jj,Jk,Jm,Jn,Jo,Jq,Jr,Js,Ju,Jv,J3,Kh,Kk,Kl,Km,K8,Ut,Ux,Uy,U0,U4,U5,U7,Vb,Vc,Ve,Vk,Vm,Vo,Vp,Vq,Vr,Vs,Vt,Vu,Vv,Vw,Vx,Vy,Vz,V0,V6,Wd,We,Hh,Hi,Hk,Hl,Hp,Hu,Hv,Hw,H1,H4,H5,H6,H8,H9,Ni,Nk,Nl,Nm,Nn,No,Nq,Nr,Nu,Nw,Nx,Nz,Be,Bh,Bi,q53R0.eq_1,q53R1.eq_1,q53R2.eq_1,q53R3.eq_1,q53R4.eq_1,q53R5.eq_1,q53R6.eq_1,q53R7.eq_1,q53R8.eq_1,q53R9.eq_1,q53R10.eq_1,q53R11.eq_1,q53R12.eq_1,q53R13.eq_1,q53R14.eq_1,q53R15.eq_1,q53R16.eq_1,q53R17.eq_1,c_size_Least.eq_1,c_size_Least_L0.eq_1,hlt',hg,hN,hm',cl,cs,hw])
/-- The least window of members. -/
def leastW (w : Nat → Int × Int) (ids : List Int) (l0 l1 : Int) : Int × Int := if mayW w = true ∧ (lstW w ids).1 = true then (lstW w ids).2 else (l0, l1)
theorem least_P (w : Nat → Int × Int) (ids : List Int) (b f : Bool) (l0 l1 : Int) (hl : ids.length < 9223372036854775807) :
    aP G FT n_size_Least [.agg (cellsW w), .data b 1 (ints ids) f, .agg [.int .i64 l0, .int .i64 l1]] = some (.agg [.int .i64 (leastW w ids l0 l1).1, .int .i64 (leastW w ids l0 l1).2]) := by
  unfold aP leastW
  rw [run_size_Least]
  have hM := sMay_P G w
  have cl := cW_len w
  have cs := cW_st w
  have cv := cW_v w
  have ct : List.take 18 (cellsW w) = cellsW w := rfl
  by_cases hm : mayW w = true
  · have key := least_loop G w l0 l1 b f ids hl ids.length 0 (false, 24, 40) (by omega)
    have e0 : ((0 : Nat) : Int) = 0 := rfl
    rw [List.drop_zero, e0] at key
    unfold rowsL at key
    simp only [← show lstW w ids = ids.foldl (stepW w) (false, 24, 40) from rfl] at key
    have hln := ints_len ids
    cases ht : (lstW w ids).1 with
    | true =>
      rw [if_pos ⟨hm, rfl⟩]
      rw [ht] at key
      (sym => simp [Qb,Qc,Qd,Qe,Qi,Qj,Qm,Qn,Qo,Qr,Qt,Qv,Qw,Qx,Qy,Q1,Q4,Q5,Xd,Xy,Yh,Yj,Yk,Yr,Yu,Y1,Y5,Y8,Y9,Za,Zb,Zc,Zd,Ze,Zg,Zh,Zi,Zj,Zk,Zl,Zm,Zn,Zo,Zr,Zs,Zt,Zu,Zv,Zw,Zy,Z0,Z1,Z3,Jj,Jk,Jl,Jn,Jq,Jr,Jv,Jx,J1,J2,K8,K9,Ue,Uf,Ug,V3,Wd,We,Wh,Wj,Wp,Wq,Hh,Hi,Hk,Hl,Ho,Hp,Hq,Hr,Hs,Ht,Hu,Hv,Hw,Hx,No,Nw,Nx,Nz,N0,Be,q53R0.eq_1,q53R1.eq_1,q53R2.eq_1,q53R3.eq_1,q53R4.eq_1,q53R5.eq_1,q53R6.eq_1,q53R7.eq_1,q53R8.eq_1,q53R9.eq_1,q53R10.eq_1,q53R11.eq_1,q53R12.eq_1,q53R13.eq_1,q53R14.eq_1,q53R15.eq_1,q53R16.eq_1,q53R17.eq_1,c_size_Least.eq_1,hM,cl,cs,ct,cv,hm,hln,key])
    | false =>
      rw [if_neg (by simp)]
      rw [ht] at key
      (sym => simp [Qb,Qc,Qd,Qe,Qi,Qj,Qm,Qn,Qo,Qr,Qt,Qv,Qw,Qx,Qy,Q1,Q4,Q5,Xd,Xy,Yh,Yj,Yk,Yr,Yu,Y1,Y5,Y8,Y9,Za,Zb,Zc,Zd,Ze,Zg,Zh,Zi,Zj,Zk,Zl,Zm,Zn,Zo,Zr,Zs,Zt,Zu,Zv,Zw,Zy,Z0,Z1,Z3,Jj,Jk,Jl,Jn,Jq,Jr,Jv,Jx,J1,J2,K8,K9,Ue,Uf,Ug,V3,Wd,We,Wh,Wj,Wp,Wq,Hh,Hi,Hk,Hl,Ho,Hp,Hq,Hr,Hs,Ht,Hu,Hv,Hw,Hx,No,Nw,Nx,Nz,N0,Be,q53R0.eq_1,q53R1.eq_1,q53R2.eq_1,q53R3.eq_1,q53R4.eq_1,q53R5.eq_1,q53R6.eq_1,q53R7.eq_1,q53R8.eq_1,q53R9.eq_1,q53R10.eq_1,q53R11.eq_1,q53R12.eq_1,q53R13.eq_1,q53R14.eq_1,q53R15.eq_1,q53R16.eq_1,q53R17.eq_1,c_size_Least.eq_1,hM,cl,cs,ct,cv,hm,hln,key])
  · have hm' : mayW w = false := by simpa using hm
    rw [if_neg (by simp [hm'])]
    (sym => simp [Qb,Qc,Qd,Qe,Qi,Qj,Qm,Qn,Qo,Qr,Qt,Qv,Qw,Qx,Qy,Q1,Q4,Q5,Xd,Xy,Yh,Yj,Yk,Yr,Yu,Y1,Y5,Y8,Y9,Za,Zb,Zc,Zd,Ze,Zg,Zh,Zi,Zj,Zk,Zl,Zm,Zn,Zo,Zr,Zs,Zt,Zu,Zv,Zw,Zy,Z0,Z1,Z3,Jj,Jk,Jl,Jn,Jq,Jr,Jv,Jx,J1,J2,K8,K9,Ue,Uf,Ug,V3,Wd,We,Wh,Wj,Wp,Wq,Hh,Hi,Hk,Hl,Ho,Hp,Hq,Hr,Hs,Ht,Hu,Hv,Hw,Hx,No,Nw,Nx,Nz,N0,Be,q53R0.eq_1,q53R1.eq_1,q53R2.eq_1,q53R3.eq_1,q53R4.eq_1,q53R5.eq_1,q53R6.eq_1,q53R7.eq_1,q53R8.eq_1,q53R9.eq_1,q53R10.eq_1,q53R11.eq_1,q53R12.eq_1,q53R13.eq_1,q53R14.eq_1,q53R15.eq_1,q53R16.eq_1,q53R17.eq_1,c_size_Least.eq_1,hM,cl,cs,ct,cv,hm'])
end Go.Proofs.Ythcnhibjddomdaa
