/- SessionLeaves: the law. Conditions: as each statement says. -/
import Derived.Test.YthcnhibjddomdaaSeh
import Derived.Test.YthcnhibjddomdaaSej
import Derived.Test.YthcnhibjddomdaaSem
set_option linter.unusedVariables false
set_option linter.unusedSimpArgs false
set_option linter.unusedSectionVars false
set_option maxRecDepth 20000
set_option maxHeartbeats 8000000
namespace Go.Proofs.Ythcnhibjddomdaa
open Go
variable (G : Nat → Option (List AV))
theorem lea_loop0 (s y : Ses) (j : Nat) (hn : ∀ z ∈ y.tq, z ≠ (j : Int)) (hl : y.tq.length ≤ 1000) : ∀ (m i : Nat), i + m = y.tq.length → ∀ st, agc 0 [1, 2, 7, 9] st = some ⟨[(1, .int .i64 j), (2, .ptr 0 0 0 0), (7, .ptr 1 0 0 0), (9, .int .i64 i)], [⟨33, 0, true, [sC s]⟩, ⟨33, 0, true, [sC y]⟩]⟩ →
    aE G FT 0 lp_law30_SessionLeaves_0 st = some (.exit 0, ⟨[(1, .int .i64 j), (2, .ptr 0 0 0 0), (7, .ptr 1 0 0 0), (9, .int .i64 y.tq.length), (91, .bool false)], [⟨33, 0, true, [sC s]⟩, ⟨33, 0, true, [sC y]⟩]⟩) := by
  have b2 := sC_2 y
  have hln := ints_len y.tq
  intro m
  induction m with
  | zero =>
    intro i hi st hst
    rw [lp_law30_SessionLeaves_0, y_loop, hst]
    obtain rfl : i = y.tq.length := by omega
    have e0 : decide ((y.tq.length : Int) < y.tq.length) = false := by simp
    (sym => simp [Qa,Qc,Qd,Qe,Qi,Qj,Qr,Qt,Q4,Xa,Xp,Xs,Xy,X5,X8,Ya,Yh,Yr,Ys,Yt,Yv,Yy,Y9,Za,Zb,Zc,Ze,Zg,Zh,Zk,Zl,Zm,Zn,Zt,Zv,Zw,Zx,Zy,Zz,Z0,Z3,Jj,Jk,Jm,Jn,Jo,Jr,Js,Ju,Jv,Ut,Ux,U4,U5,U7,Vb,Vk,Vm,Vo,Vp,Vq,Vr,Vs,Vt,Vu,Vv,Vw,Vx,Vy,Vz,V0,Hh,Hi,Hp,Hu,Hv,Hw,H1,H4,H5,H6,Ne,Ni,Nk,Nl,Nm,No,Nu,Nx,Be,q6R0.eq_1,q6R1.eq_1,q6R2.eq_1,q6R3.eq_1,q6R4.eq_1,q6R5.eq_1,q6R6.eq_1,q6R7.eq_1,q6R8.eq_1,q6R9.eq_1,q6R10.eq_1,q6R12.eq_1,q6R13.eq_1,q6R11.eq_1,q6R14.eq_1,q6R15.eq_1,q6R16.eq_1,q6R18.eq_1,q6R19.eq_1,q6R20.eq_1,q6R21.eq_1,q6R17.eq_1,q6R22.eq_1,q6R23.eq_1,q6R25.eq_1,q6R26.eq_1,q6R24.eq_1,q6R27.eq_1,c_law30_SessionLeaves.eq_1,c_law30_SessionLeaves_L0.eq_1,e0,hln,b2])
  | succ m ih =>
    intro i hi st hst
    have hlt : i < y.tq.length := by omega
    have hlt' : (i : Int) < y.tq.length := by omega
    have hw := wrap_nat (n := i) (by omega)
    have hg := ints_at hlt
    have hne : ¬ y.tq[i] = (j : Int) := hn _ (List.getElem_mem hlt)
    have ih := ih (i + 1) (by omega)
    rw [lp_law30_SessionLeaves_0] at ih
    rw [lp_law30_SessionLeaves_0, y_loop, hst]
    generalize y.tq[i] = z at hg hne
    (sym => simp [Qa,Qc,Qd,Qe,Qi,Qj,Qr,Qt,Q4,Xa,Xp,Xs,Xy,X5,X8,Ya,Yh,Yr,Ys,Yt,Yv,Yy,Y9,Za,Zb,Zc,Ze,Zg,Zh,Zk,Zl,Zm,Zn,Zt,Zv,Zw,Zx,Zy,Zz,Z0,Z3,Jj,Jk,Jm,Jn,Jo,Jr,Js,Ju,Jv,Ut,Ux,U4,U5,U7,Vb,Vk,Vm,Vo,Vp,Vq,Vr,Vs,Vt,Vu,Vv,Vw,Vx,Vy,Vz,V0,Hh,Hi,Hp,Hu,Hv,Hw,H1,H4,H5,H6,Ne,Ni,Nk,Nl,Nm,No,Nu,Nx,Be,q6R0.eq_1,q6R1.eq_1,q6R2.eq_1,q6R3.eq_1,q6R4.eq_1,q6R5.eq_1,q6R6.eq_1,q6R7.eq_1,q6R8.eq_1,q6R9.eq_1,q6R10.eq_1,q6R12.eq_1,q6R13.eq_1,q6R11.eq_1,q6R14.eq_1,q6R15.eq_1,q6R16.eq_1,q6R18.eq_1,q6R19.eq_1,q6R20.eq_1,q6R21.eq_1,q6R17.eq_1,q6R22.eq_1,q6R23.eq_1,q6R25.eq_1,q6R26.eq_1,q6R24.eq_1,q6R27.eq_1,c_law30_SessionLeaves.eq_1,c_law30_SessionLeaves_L0.eq_1,hlt',hg,hln,hw,b2,hne]; tactic => (
      refine ih _ ?_
      (sym => simp [Qa,Qc,Qd,Qe,Qi,Qj,Qr,Qt,Q4,Xa,Xp,Xs,Xy,X5,X8,Ya,Yh,Yr,Ys,Yt,Yv,Yy,Y9,Za,Zb,Zc,Ze,Zg,Zh,Zk,Zl,Zm,Zn,Zt,Zv,Zw,Zx,Zy,Zz,Z0,Z3,Jj,Jk,Jm,Jn,Jo,Jr,Js,Ju,Jv,Ut,Ux,U4,U5,U7,Vb,Vk,Vm,Vo,Vp,Vq,Vr,Vs,Vt,Vu,Vv,Vw,Vx,Vy,Vz,V0,Hh,Hi,Hp,Hu,Hv,Hw,H1,H4,H5,H6,Ne,Ni,Nk,Nl,Nm,No,Nu,Nx,Be])))
def offQ (q : List Pc) (j : Nat) : List Pc := q.filter fun t => !decide (t.1 = (j : Int))
theorem offQ_step (q : List Pc) (j : Nat) {i : Nat} (hi : i < q.length) : (offQ (q.take (i + 1)) j) = offQ (q.take i) j ++ if q[i].1 = (j : Int) then [] else [q[i]] := by
  have e1 : q.take (i + 1) = q.take i ++ [q[i]] := by rw [List.take_add_one, List.getElem?_eq_getElem hi]; rfl
  unfold offQ
  rw [e1, List.filter_append]
  congr 1
  by_cases e : q[i].1 = (j : Int) <;> simp [e]
theorem offQ_at (q : List Pc) (j : Nat) {i : Nat} (hi : i < q.length) (h : ¬ q[i].1 = (j : Int)) : (offQ q j)[(offQ (q.take i) j).length]? = some q[i] := by
  have e : q = q.take (i + 1) ++ q.drop (i + 1) := (List.take_append_drop ..).symm
  have e2 : offQ q j = offQ (q.take (i + 1)) j ++ offQ (q.drop (i + 1)) j := by
    conv => lhs; rw [e]
    exact List.filter_append ..
  rw [e2, offQ_step q j hi, if_neg h, List.append_assoc, List.getElem?_append_right (Nat.le_refl _), Nat.sub_self]
  rfl
theorem lea_loop1 (s y : Ses) (j : Nat) (hq : y.q = cpQ (offQ s.q j)) (hl : s.q.length ≤ 1000) : ∀ (m i : Nat), i + m = s.q.length →
    aE G FT 0 lp_law30_SessionLeaves_1 ⟨[(1, .int .i64 j), (2, .ptr 0 0 0 0), (7, .ptr 1 0 0 0), (10, .int .i64 ((offQ (s.q.take i) j).length : Nat)), (11, .int .i64 i)], [⟨33, 0, true, [sC s]⟩, ⟨33, 0, true, [sC y]⟩]⟩ =
      some (.exit 2, ⟨[(1, .int .i64 j), (2, .ptr 0 0 0 0), (7, .ptr 1 0 0 0), (10, .int .i64 ((offQ s.q j).length : Nat)), (11, .int .i64 s.q.length), (106, .bool false)], [⟨33, 0, true, [sC s]⟩, ⟨33, 0, true, [sC y]⟩]⟩) := by
  have b3 := sC_3 s
  have c3 := sC_3 y
  have hln := pcs_len s.q
  intro m
  induction m with
  | zero =>
    intro i hi
    rw [lp_law30_SessionLeaves_1, y_loop]
    obtain rfl : i = s.q.length := by omega
    have e0 : decide ((s.q.length : Int) < s.q.length) = false := by simp
    rw [List.take_length]
    (sym => simp [Qa,Qc,Qd,Qe,Qf,Qg,Qi,Qj,Qr,Qt,Qu,Q4,Xa,Xp,Xs,Xy,X5,X9,Ya,Yd,Yh,Yr,Ys,Yt,Yv,Yw,Yy,Y9,Za,Zb,Zc,Ze,Zg,Zh,Zk,Zl,Zm,Zn,Zt,Zv,Zw,Zx,Zy,Zz,Z0,Z3,Jb,Jj,Jk,Jm,Jn,Jo,Jr,Js,Ju,Jv,Ut,Ux,U4,U5,U7,Vb,Vk,Vm,Vo,Vp,Vq,Vr,Vs,Vt,Vu,Vv,Vw,Vx,Vy,Vz,V0,Hh,Hi,Hp,Hr,Hs,Hu,Hv,Hw,H1,H4,H5,H6,Ni,Nk,Nl,Nm,No,Nu,Nw,Nx,Be,q6R0.eq_1,q6R1.eq_1,q6R2.eq_1,q6R3.eq_1,q6R4.eq_1,q6R5.eq_1,q6R6.eq_1,q6R7.eq_1,q6R8.eq_1,q6R9.eq_1,q6R10.eq_1,q6R12.eq_1,q6R13.eq_1,q6R11.eq_1,q6R14.eq_1,q6R15.eq_1,q6R16.eq_1,q6R18.eq_1,q6R19.eq_1,q6R20.eq_1,q6R21.eq_1,q6R17.eq_1,q6R22.eq_1,q6R23.eq_1,q6R25.eq_1,q6R26.eq_1,q6R24.eq_1,q6R27.eq_1,c_law30_SessionLeaves.eq_1,c_law30_SessionLeaves_L1.eq_1,e0,hln,b3])
  | succ m ih =>
    intro i hi
    have hlt : i < s.q.length := by omega
    have hlt' : (i : Int) < s.q.length := by omega
    have hw := wrap_nat (n := i) (by omega)
    have hg := pcs_at hlt
    have ih := ih (i + 1) (by omega)
    rw [lp_law30_SessionLeaves_1] at ih
    rw [← ih, lp_law30_SessionLeaves_1, y_loop, offQ_step s.q j hlt]
    by_cases e : s.q[i].1 = (j : Int)
    · rw [if_pos e, List.append_nil]
      generalize (offQ (s.q.take i) j).length = n
      (sym => simp [Qa,Qc,Qd,Qe,Qf,Qg,Qi,Qj,Qr,Qt,Qu,Q4,Xa,Xp,Xs,Xy,X5,X9,Ya,Yd,Yh,Yr,Ys,Yt,Yv,Yw,Yy,Y9,Za,Zb,Zc,Ze,Zg,Zh,Zk,Zl,Zm,Zn,Zt,Zv,Zw,Zx,Zy,Zz,Z0,Z3,Jb,Jj,Jk,Jm,Jn,Jo,Jr,Js,Ju,Jv,Ut,Ux,U4,U5,U7,Vb,Vk,Vm,Vo,Vp,Vq,Vr,Vs,Vt,Vu,Vv,Vw,Vx,Vy,Vz,V0,Hh,Hi,Hp,Hr,Hs,Hu,Hv,Hw,H1,H4,H5,H6,Ni,Nk,Nl,Nm,No,Nu,Nw,Nx,Be,q6R0.eq_1,q6R1.eq_1,q6R2.eq_1,q6R3.eq_1,q6R4.eq_1,q6R5.eq_1,q6R6.eq_1,q6R7.eq_1,q6R8.eq_1,q6R9.eq_1,q6R10.eq_1,q6R12.eq_1,q6R13.eq_1,q6R11.eq_1,q6R14.eq_1,q6R15.eq_1,q6R16.eq_1,q6R18.eq_1,q6R19.eq_1,q6R20.eq_1,q6R21.eq_1,q6R17.eq_1,q6R22.eq_1,q6R23.eq_1,q6R25.eq_1,q6R26.eq_1,q6R24.eq_1,q6R27.eq_1,c_law30_SessionLeaves.eq_1,c_law30_SessionLeaves_L1.eq_1,hlt',hg,hln,hw,b3,e])
    · rw [if_neg e, List.length_append]
      have hat := offQ_at s.q j hlt e
      have hla : (offQ s.q j).length ≤ 1000 := Nat.le_trans (List.length_filter_le _ _) hl
      have hlq : (pcs y.q).length = (offQ s.q j).length := by rw [pcs_len, hq, cpQ_len]
      obtain ⟨hnl, hnv⟩ := List.getElem?_eq_some_iff.1 hat
      have hgy : (pcs y.q)[(offQ (s.q.take i) j).length]? = some [.int .i64 s.q[i].1, .int .i64 s.q[i].2.1, .data false 1 (byt s.q[i].2.2.1) false] := by
        rw [hq, pcs, cpQ, List.getElem?_map, List.getElem?_map, hat]; rfl
      generalize (offQ (s.q.take i) j).length = n at *
      have hnl' : ¬ ((offQ s.q j).length : Int) ≤ n := by omega
      have hwn := wrap_nat (n := n) (by omega)
      have l1 : [s.q[i]].length = 1 := rfl
      rw [l1]
      generalize s.q[i] = z at *
      (sym => simp [Qa,Qc,Qd,Qe,Qf,Qg,Qi,Qj,Qr,Qt,Qu,Q4,Xa,Xp,Xs,Xy,X5,X9,Ya,Yd,Yh,Yr,Ys,Yt,Yv,Yw,Yy,Y9,Za,Zb,Zc,Ze,Zg,Zh,Zk,Zl,Zm,Zn,Zt,Zv,Zw,Zx,Zy,Zz,Z0,Z3,Jb,Jj,Jk,Jm,Jn,Jo,Jr,Js,Ju,Jv,Ut,Ux,U4,U5,U7,Vb,Vk,Vm,Vo,Vp,Vq,Vr,Vs,Vt,Vu,Vv,Vw,Vx,Vy,Vz,V0,Hh,Hi,Hp,Hr,Hs,Hu,Hv,Hw,H1,H4,H5,H6,Ni,Nk,Nl,Nm,No,Nu,Nw,Nx,Be,q6R0.eq_1,q6R1.eq_1,q6R2.eq_1,q6R3.eq_1,q6R4.eq_1,q6R5.eq_1,q6R6.eq_1,q6R7.eq_1,q6R8.eq_1,q6R9.eq_1,q6R10.eq_1,q6R12.eq_1,q6R13.eq_1,q6R11.eq_1,q6R14.eq_1,q6R15.eq_1,q6R16.eq_1,q6R18.eq_1,q6R19.eq_1,q6R20.eq_1,q6R21.eq_1,q6R17.eq_1,q6R22.eq_1,q6R23.eq_1,q6R25.eq_1,q6R26.eq_1,q6R24.eq_1,q6R27.eq_1,c_law30_SessionLeaves.eq_1,c_law30_SessionLeaves_L1.eq_1,hlt',hg,hln,hw,b3,c3,e,hgy,hlq,hnl',hwn])
theorem lea_loop2 (s y : Ses) (j : Nat) (hm : y.mem = s.mem) (hl : s.mem.length ≤ 1000) (hk : ∀ n : Nat, 1 ≤ n → n ≤ 8 → n ≠ j → y.k n = s.k n ∧ y.w n = s.w n) (N : Int) : ∀ (m i : Nat), 1 ≤ i → i + m = 9 →
    aE G FT 0 lp_law30_SessionLeaves_2 ⟨[(1, .int .i64 j), (2, .ptr 0 0 0 0), (7, .ptr 1 0 0 0), (10, .int .i64 N), (12, .int .i64 i)], [⟨33, 0, true, [sC s]⟩, ⟨33, 0, true, [sC y]⟩]⟩ =
      some (.exit 4, ⟨[(1, .int .i64 j), (2, .ptr 0 0 0 0), (7, .ptr 1 0 0 0), (10, .int .i64 N), (12, .int .i64 9), (155, .bool false)], [⟨33, 0, true, [sC s]⟩, ⟨33, 0, true, [sC y]⟩]⟩) := by
  have b0 := sC_len s
  have b1 := sC_len y
  have b3 := sC_all s
  have c3 := sC_all y
  have b4 := sC_v s
  have c4 := sC_v y
  intro m
  induction m with
  | zero =>
    intro i h1 hi
    rw [lp_law30_SessionLeaves_2, y_loop]
    obtain rfl : i = 9 := by omega
    have e9 : ((9 : Nat) : Int) = 9 := rfl
    (sym => simp [Qa,Qc,Qd,Qe,Qf,Qg,Qh,Qi,Qj,Qm,Qn,Qo,Qr,Qt,Qu,Q4,Xa,Xb,Xp,Xt,X5,X9,Yb,Yr,Yt,Yu,Yv,Yz,Y9,Za,Zb,Zc,Ze,Zg,Zh,Zk,Zl,Zm,Zn,Zo,Zt,Zv,Zw,Zx,Zy,Zz,Z0,Z3,Ja,Jb,Jg,Jj,Jk,Jm,Jn,Jo,Jr,Js,Ju,Jv,Kh,Kk,Kl,Km,Ut,Ux,U4,U5,U7,Vb,Vk,Vm,Vo,Vp,Vq,Vr,Vs,Vt,Vu,Vv,Vw,Vx,Vy,Vz,V0,V3,V6,Wd,We,Hh,Hi,Hp,Hs,Hu,Hv,Hw,H1,H4,H5,H6,Nc,Ne,Ni,Nk,Nl,Nm,No,Nu,Nw,Nx,Nz,Be,Bh,q6R0.eq_1,q6R1.eq_1,q6R2.eq_1,q6R3.eq_1,q6R4.eq_1,q6R5.eq_1,q6R6.eq_1,q6R7.eq_1,q6R8.eq_1,q6R9.eq_1,q6R10.eq_1,q6R12.eq_1,q6R13.eq_1,q6R11.eq_1,q6R14.eq_1,q6R15.eq_1,q6R16.eq_1,q6R18.eq_1,q6R19.eq_1,q6R20.eq_1,q6R21.eq_1,q6R17.eq_1,q6R22.eq_1,q6R23.eq_1,q6R25.eq_1,q6R26.eq_1,q6R24.eq_1,q6R27.eq_1,c_law30_SessionLeaves.eq_1,c_law30_SessionLeaves_L2.eq_1,e9])
  | succ m ih =>
    intro i h1 hi
    have hi9 : i < 9 := by omega
    have hi8' : (i : Int) ≤ 8 := by omega
    have hi9' : (i : Int) < 9 := by omega
    have hw := wrap_nat (n := i) (by omega)
    have ih := ih (i + 1) (by omega) (by omega)
    rw [lp_law30_SessionLeaves_2] at ih
    rw [← ih, lp_law30_SessionLeaves_2, y_loop]
    by_cases e : i = j
    · subst e
      (sym => simp [Qa,Qc,Qd,Qe,Qf,Qg,Qh,Qi,Qj,Qm,Qn,Qo,Qr,Qt,Qu,Q4,Xa,Xb,Xp,Xt,X5,X9,Yb,Yr,Yt,Yu,Yv,Yz,Y9,Za,Zb,Zc,Ze,Zg,Zh,Zk,Zl,Zm,Zn,Zo,Zt,Zv,Zw,Zx,Zy,Zz,Z0,Z3,Ja,Jb,Jg,Jj,Jk,Jm,Jn,Jo,Jr,Js,Ju,Jv,Kh,Kk,Kl,Km,Ut,Ux,U4,U5,U7,Vb,Vk,Vm,Vo,Vp,Vq,Vr,Vs,Vt,Vu,Vv,Vw,Vx,Vy,Vz,V0,V3,V6,Wd,We,Hh,Hi,Hp,Hs,Hu,Hv,Hw,H1,H4,H5,H6,Nc,Ne,Ni,Nk,Nl,Nm,No,Nu,Nw,Nx,Nz,Be,Bh,q6R0.eq_1,q6R1.eq_1,q6R2.eq_1,q6R3.eq_1,q6R4.eq_1,q6R5.eq_1,q6R6.eq_1,q6R7.eq_1,q6R8.eq_1,q6R9.eq_1,q6R10.eq_1,q6R12.eq_1,q6R13.eq_1,q6R11.eq_1,q6R14.eq_1,q6R15.eq_1,q6R16.eq_1,q6R18.eq_1,q6R19.eq_1,q6R20.eq_1,q6R21.eq_1,q6R17.eq_1,q6R22.eq_1,q6R23.eq_1,q6R25.eq_1,q6R26.eq_1,q6R24.eq_1,q6R27.eq_1,c_law30_SessionLeaves.eq_1,c_law30_SessionLeaves_L2.eq_1,hi8',hw])
    · have e' : ¬ (i : Int) = j := by omega
      have ka := sC_kat s hi9
      have kb := sC_kat y hi9
      have wa := sC_wat s hi9
      have wb := sC_wat y hi9
      obtain ⟨k1, k2⟩ := hk i h1 (by omega) e
      rw [k1] at kb
      rw [k2] at wb
      have q1 : 24 + i < 33 := by omega
      have q2 : 4 + i * 2 + 2 ≤ 33 := by omega
      have r1 := role30_P G s i hl
      have r2 := role30_P G y i (by rw [hm]; exact hl)
      rw [hm] at r2
      generalize sC s = cs at *
      generalize sC y = cy at *
      (sym => simp [Qa,Qc,Qd,Qe,Qf,Qg,Qh,Qi,Qj,Qm,Qn,Qo,Qr,Qt,Qu,Q4,Xa,Xb,Xp,Xt,X5,X9,Yb,Yr,Yt,Yu,Yv,Yz,Y9,Za,Zb,Zc,Ze,Zg,Zh,Zk,Zl,Zm,Zn,Zo,Zt,Zv,Zw,Zx,Zy,Zz,Z0,Z3,Ja,Jb,Jg,Jj,Jk,Jm,Jn,Jo,Jr,Js,Ju,Jv,Kh,Kk,Kl,Km,Ut,Ux,U4,U5,U7,Vb,Vk,Vm,Vo,Vp,Vq,Vr,Vs,Vt,Vu,Vv,Vw,Vx,Vy,Vz,V0,V3,V6,Wd,We,Hh,Hi,Hp,Hs,Hu,Hv,Hw,H1,H4,H5,H6,Nc,Ne,Ni,Nk,Nl,Nm,No,Nu,Nw,Nx,Nz,Be,Bh,q6R0.eq_1,q6R1.eq_1,q6R2.eq_1,q6R3.eq_1,q6R4.eq_1,q6R5.eq_1,q6R6.eq_1,q6R7.eq_1,q6R8.eq_1,q6R9.eq_1,q6R10.eq_1,q6R12.eq_1,q6R13.eq_1,q6R11.eq_1,q6R14.eq_1,q6R15.eq_1,q6R16.eq_1,q6R18.eq_1,q6R19.eq_1,q6R20.eq_1,q6R21.eq_1,q6R17.eq_1,q6R22.eq_1,q6R23.eq_1,q6R25.eq_1,q6R26.eq_1,q6R24.eq_1,q6R27.eq_1,c_law30_SessionLeaves.eq_1,c_law30_SessionLeaves_L2.eq_1,hi8',hi9',hw,e',ka,kb,wa,wb,q1,q2,b0,b1,b3,c3,b4,c4,r1,r2])
theorem leaves_P (s : Ses) (id : Int) : aP G FT n_law30_SessionLeaves [.agg (sC s), .int .i64 id] = some (.bool true) := by
  have hK := known30_P G
  have hGr := great30_P G s
  have a1 := sC_len s
  have a2 := sC_st s
  have a3 := sC_all s
  have a4 := sC_v s
  unfold aP
  rw [run_law30_SessionLeaves]
  cases hg : greatS s with
  | true =>
    (sym => simp [Qb,Qc,Qd,Qe,Qf,Qg,Qi,Qj,Qm,Qn,Qo,Qr,Qt,Qu,Qv,Qw,Qx,Q1,Q4,Q5,Xa,Xb,Xd,Xp,Xt,Xw,Xx,Xy,X8,X9,Yh,Yj,Yr,Yt,Yu,Yv,Yz,Y1,Y5,Y7,Y9,Za,Zb,Zc,Zd,Ze,Zg,Zh,Zi,Zj,Zk,Zl,Zm,Zn,Zo,Zr,Zs,Zt,Zu,Zv,Zw,Zx,Zy,Zz,Z0,Z1,Z3,Jb,Jg,Jj,Jk,Jl,Jn,Jq,Jr,Jv,Jx,J1,J2,Kh,Kk,Kl,Km,K8,Ue,Uf,Ug,Ul,Ut,Ux,U4,U5,U7,Vb,Vk,Vm,Vo,Vp,Vq,Vr,Vs,Vt,Vu,Vv,Vw,Vx,Vy,Vz,V0,V3,V6,Wd,We,Wk,Hh,Hi,Hk,Hl,Hp,Hr,Hs,Ht,Hu,Hv,Hw,H1,H4,H5,H6,Nc,Ne,Ni,Nk,Nl,Nm,No,Nu,Nw,Nx,Nz,N0,Be,Bh,q6R0.eq_1,q6R1.eq_1,q6R2.eq_1,q6R3.eq_1,q6R4.eq_1,q6R5.eq_1,q6R6.eq_1,q6R7.eq_1,q6R8.eq_1,q6R9.eq_1,q6R10.eq_1,q6R12.eq_1,q6R13.eq_1,q6R11.eq_1,q6R14.eq_1,q6R15.eq_1,q6R16.eq_1,q6R18.eq_1,q6R19.eq_1,q6R20.eq_1,q6R21.eq_1,q6R17.eq_1,q6R22.eq_1,q6R23.eq_1,q6R25.eq_1,q6R26.eq_1,q6R24.eq_1,q6R27.eq_1,c_law30_SessionLeaves.eq_1,hK,hGr,hg,a1,a2,a3,a4])
  | false =>
  obtain ⟨l1, l2, l3, ok⟩ := great30_ok hg
  have hM := smay30_P G s ok
  cases hs : sesB s with
  | false =>
    (sym => simp [Qb,Qc,Qd,Qe,Qf,Qg,Qi,Qj,Qm,Qn,Qo,Qr,Qt,Qu,Qv,Qw,Qx,Q1,Q4,Q5,Xa,Xb,Xd,Xp,Xt,Xw,Xx,Xy,X8,X9,Yh,Yj,Yr,Yt,Yu,Yv,Yz,Y1,Y5,Y7,Y9,Za,Zb,Zc,Zd,Ze,Zg,Zh,Zi,Zj,Zk,Zl,Zm,Zn,Zo,Zr,Zs,Zt,Zu,Zv,Zw,Zx,Zy,Zz,Z0,Z1,Z3,Jb,Jg,Jj,Jk,Jl,Jn,Jq,Jr,Jv,Jx,J1,J2,Kh,Kk,Kl,Km,K8,Ue,Uf,Ug,Ul,Ut,Ux,U4,U5,U7,Vb,Vk,Vm,Vo,Vp,Vq,Vr,Vs,Vt,Vu,Vv,Vw,Vx,Vy,Vz,V0,V3,V6,Wd,We,Wk,Hh,Hi,Hk,Hl,Hp,Hr,Hs,Ht,Hu,Hv,Hw,H1,H4,H5,H6,Nc,Ne,Ni,Nk,Nl,Nm,No,Nu,Nw,Nx,Nz,N0,Be,Bh,q6R0.eq_1,q6R1.eq_1,q6R2.eq_1,q6R3.eq_1,q6R4.eq_1,q6R5.eq_1,q6R6.eq_1,q6R7.eq_1,q6R8.eq_1,q6R9.eq_1,q6R10.eq_1,q6R12.eq_1,q6R13.eq_1,q6R11.eq_1,q6R14.eq_1,q6R15.eq_1,q6R16.eq_1,q6R18.eq_1,q6R19.eq_1,q6R20.eq_1,q6R21.eq_1,q6R17.eq_1,q6R22.eq_1,q6R23.eq_1,q6R25.eq_1,q6R26.eq_1,q6R24.eq_1,q6R27.eq_1,c_law30_SessionLeaves.eq_1,hK,hGr,hg,hM,hs,a1,a2,a3,a4])
  | true =>
  have hR := role30_P G s id (by omega)
  by_cases hr : roleOf s.mem id = 0
  · (sym => simp [Qb,Qc,Qd,Qe,Qf,Qg,Qi,Qj,Qm,Qn,Qo,Qr,Qt,Qu,Qv,Qw,Qx,Q1,Q4,Q5,Xa,Xb,Xd,Xp,Xt,Xw,Xx,Xy,X8,X9,Yh,Yj,Yr,Yt,Yu,Yv,Yz,Y1,Y5,Y7,Y9,Za,Zb,Zc,Zd,Ze,Zg,Zh,Zi,Zj,Zk,Zl,Zm,Zn,Zo,Zr,Zs,Zt,Zu,Zv,Zw,Zx,Zy,Zz,Z0,Z1,Z3,Jb,Jg,Jj,Jk,Jl,Jn,Jq,Jr,Jv,Jx,J1,J2,Kh,Kk,Kl,Km,K8,Ue,Uf,Ug,Ul,Ut,Ux,U4,U5,U7,Vb,Vk,Vm,Vo,Vp,Vq,Vr,Vs,Vt,Vu,Vv,Vw,Vx,Vy,Vz,V0,V3,V6,Wd,We,Wk,Hh,Hi,Hk,Hl,Hp,Hr,Hs,Ht,Hu,Hv,Hw,H1,H4,H5,H6,Nc,Ne,Ni,Nk,Nl,Nm,No,Nu,Nw,Nx,Nz,N0,Be,Bh,q6R0.eq_1,q6R1.eq_1,q6R2.eq_1,q6R3.eq_1,q6R4.eq_1,q6R5.eq_1,q6R6.eq_1,q6R7.eq_1,q6R8.eq_1,q6R9.eq_1,q6R10.eq_1,q6R12.eq_1,q6R13.eq_1,q6R11.eq_1,q6R14.eq_1,q6R15.eq_1,q6R16.eq_1,q6R18.eq_1,q6R19.eq_1,q6R20.eq_1,q6R21.eq_1,q6R17.eq_1,q6R22.eq_1,q6R23.eq_1,q6R25.eq_1,q6R26.eq_1,q6R24.eq_1,q6R27.eq_1,c_law30_SessionLeaves.eq_1,hK,hGr,hg,hM,hs,hR,hr,a1,a2,a3,a4])
  have hid : 1 ≤ id ∧ id ≤ 8 := there_id ((there_iff (ses_parts hs).1 id).2 hr)
  obtain ⟨j, rfl⟩ : ∃ j : Nat, id = (j : Int) := ⟨id.toNat, by omega⟩
  obtain ⟨x, y, e1, e2, okx, oky, p1, p2, p3, p4, p5, p6, p7, p8⟩ := leaves_pure hs (by omega) (by omega) hr
  have hL := leave30_P G s ok j
  have hJ := join30_P G x okx j (roleOf s.mem j)
  rw [e1] at hL
  rw [e2] at hJ
  simp only at hL hJ
  have rx := role30_P G x j okx.1
  have ry := role30_P G y j oky.1
  rw [p1] at rx
  rw [p2] at ry
  have hj9 : (j : Int) < 9 := by omega
  have q1 : 24 + j < 33 := by omega
  have q2 : 4 + j * 2 + 2 ≤ 33 := by omega
  have ky := sC_kat y (show j < 9 by omega)
  have wy := sC_wat y (show j < 9 by omega)
  have hy1 := sC_1 y
  have hy3 := sC_3 y
  rw [p3] at ky
  rw [p4] at wy
  have x1 := sC_len x
  have x2 := sC_st x
  have x3 := sC_all x
  have x4 := sC_v x
  have xd : (sC x).drop 33 = [] := rfl
  have y1 := sC_len y
  have y2 := sC_st y
  have y3 := sC_all y
  have y4 := sC_v y
  have yd : (sC y).drop 33 = [] := rfl
  have k0 := lea_loop0 G s y j p6 oky.2.1 y.tq.length 0 (by omega)
  have k1 := lea_loop1 G s y j p7 (by omega) s.q.length 0 (by omega)
  have k2 := fun N => lea_loop2 G s y j p2 (by omega) p8 N 8 1 (by omega) (by omega)
  have hlq : (pcs y.q).length = (offQ s.q j).length := by rw [pcs_len, p7, cpQ_len]; rfl
  have t0 : (offQ (s.q.take 0) j).length = 0 := rfl
  rw [t0] at k1
  simp only [Int.natCast_zero] at k0 k1
  simp only [show ((1 : Nat) : Int) = 1 from rfl] at k2
  have k0 := k0 ⟨[(1, .int .i64 j), (2, .ptr 0 0 0 0), (7, .ptr 2 0 0 0), (9, .int .i64 0)], [⟨33, 0, true, [sC s]⟩, ⟨33, 0, true, [sC x]⟩, ⟨33, 0, true, [sC y]⟩]⟩ (by (sym => simp [Qb,Qc,Qd,Qe,Qf,Qg,Qi,Qj,Qm,Qn,Qo,Qr,Qt,Qu,Qv,Qw,Qx,Q1,Q4,Q5,Xa,Xb,Xd,Xp,Xt,Xw,Xx,Xy,X8,X9,Yh,Yj,Yr,Yt,Yu,Yv,Yz,Y1,Y5,Y7,Y9,Za,Zb,Zc,Zd,Ze,Zg,Zh,Zi,Zj,Zk,Zl,Zm,Zn,Zo,Zr,Zs,Zt,Zu,Zv,Zw,Zx,Zy,Zz,Z0,Z1,Z3,Jb,Jg,Jj,Jk,Jl,Jn,Jq,Jr,Jv,Jx,J1,J2,Kh,Kk,Kl,Km,K8,Ue,Uf,Ug,Ul,Ut,Ux,U4,U5,U7,Vb,Vk,Vm,Vo,Vp,Vq,Vr,Vs,Vt,Vu,Vv,Vw,Vx,Vy,Vz,V0,V3,V6,Wd,We,Wk,Hh,Hi,Hk,Hl,Hp,Hr,Hs,Ht,Hu,Hv,Hw,H1,H4,H5,H6,Nc,Ne,Ni,Nk,Nl,Nm,No,Nu,Nw,Nx,Nz,N0,Be,Bh]))
  generalize sC s = scs at *
  generalize sC x = scx at *
  generalize sC y = scy at *
  (sym => simp [Qb,Qc,Qd,Qe,Qf,Qg,Qi,Qj,Qm,Qn,Qo,Qr,Qt,Qu,Qv,Qw,Qx,Q1,Q4,Q5,Xa,Xb,Xd,Xp,Xt,Xw,Xx,Xy,X8,X9,Yh,Yj,Yr,Yt,Yu,Yv,Yz,Y1,Y5,Y7,Y9,Za,Zb,Zc,Zd,Ze,Zg,Zh,Zi,Zj,Zk,Zl,Zm,Zn,Zo,Zr,Zs,Zt,Zu,Zv,Zw,Zx,Zy,Zz,Z0,Z1,Z3,Jb,Jg,Jj,Jk,Jl,Jn,Jq,Jr,Jv,Jx,J1,J2,Kh,Kk,Kl,Km,K8,Ue,Uf,Ug,Ul,Ut,Ux,U4,U5,U7,Vb,Vk,Vm,Vo,Vp,Vq,Vr,Vs,Vt,Vu,Vv,Vw,Vx,Vy,Vz,V0,V3,V6,Wd,We,Wk,Hh,Hi,Hk,Hl,Hp,Hr,Hs,Ht,Hu,Hv,Hw,H1,H4,H5,H6,Nc,Ne,Ni,Nk,Nl,Nm,No,Nu,Nw,Nx,Nz,N0,Be,Bh,q6R0.eq_1,q6R1.eq_1,q6R2.eq_1,q6R3.eq_1,q6R4.eq_1,q6R5.eq_1,q6R6.eq_1,q6R7.eq_1,q6R8.eq_1,q6R9.eq_1,q6R10.eq_1,q6R12.eq_1,q6R13.eq_1,q6R11.eq_1,q6R14.eq_1,q6R15.eq_1,q6R16.eq_1,q6R18.eq_1,q6R19.eq_1,q6R20.eq_1,q6R21.eq_1,q6R17.eq_1,q6R22.eq_1,q6R23.eq_1,q6R25.eq_1,q6R26.eq_1,q6R24.eq_1,q6R27.eq_1,c_law30_SessionLeaves.eq_1,hK,hGr,hg,hM,hs,hR,hr,a1,a2,a3,a4,hL,hJ,rx,ry,hj9,q1,q2,ky,wy,hy1,hy3,p5,x1,x2,x3,x4,xd,y1,y2,y3,y4,yd,List.append_nil,k0,k1,k2,hlq])
theorem law_SessionLeaves (a0 : List AV) (a1 : AV) (h0 : HasTys (.sl [.int .i64, .int .i64] :: .int .i64 :: .sl [.int .i64] :: .sl [.int .i64, .int .i64, .sl [.int .u8]] :: List.replicate 29 (.int .i64)) a0) (h1 : HasTy (.int .i64) a1) :
    aP G FT n_law30_SessionLeaves [.agg a0, a1] = some (.bool true) := by
  obtain ⟨s, rfl⟩ := ty_ses h0
  obtain ⟨id, rfl, _⟩ := ty_int h1
  exact leaves_P G s id
end Go.Proofs.Ythcnhibjddomdaa
