/- SessionRights: a step. Conditions: as each statement says. -/
import Derived.Test.YthcnhibjddomdaaSep
set_option linter.unusedVariables false
set_option linter.unusedSimpArgs false
set_option linter.unusedSectionVars false
set_option maxRecDepth 20000
set_option maxHeartbeats 8000000
namespace Go.Proofs.Ythcnhibjddomdaa
open Go
variable (G : Nat → Option (List AV))
abbrev Rst := Int × Int × Int × Int × Dd
def rstC (x : Rst) : List AV := [.int .i64 x.1, .int .i64 x.2.1, .int .i64 x.2.2.1, .int .i64 x.2.2.2.1, .int .i64 x.2.2.2.2.1, .data false 1 (byt x.2.2.2.2.2.1) x.2.2.2.2.2.2.2.2, .int .i64 x.2.2.2.2.2.2.1, .int .i64 x.2.2.2.2.2.2.2.1]
def rsts (l : List Rst) : List (List AV) := l.map rstC
theorem rsts_len (l : List Rst) : (rsts l).length = l.length := by simp [rsts]
theorem rsts_at {l : List Rst} {i : Nat} (h : i < l.length) : (rsts l)[i]? = some (rstC l[i]) := by simp [rsts, h]
theorem drop_at' {P : List (List AV)} {a : Nat} {q : List Pc} (h : P.drop a = pcs q) (k : Nat) : P[a + k]? = (pcs q)[k]? := by rw [← h, List.getElem?_drop]
theorem drop_len' {P : List (List AV)} {a : Nat} {q : List Pc} (h : P.drop a = pcs q) (ha : a ≤ P.length) : P.length = a + q.length := by
  have := congrArg List.length h
  rw [List.length_drop, pcs_len] at this
  omega
theorem ri_loop1 (LL : List (List AV)) (f : Bool) (A B X : List AV) (P : List (List AV)) (a : Nat) (due : List Pc) (hP : P.drop a = pcs due) (ha : a ≤ P.length) (hn : due.length ≤ 1000) (i : Nat) (e : Int) (j : Nat) (hX : X[1]? = some (.int .i64 j)) : ∀ (m k : Nat) (rest : List Pc), k + m = due.length → rest = (due.take k).filter (fun t => !decide (t.1 = (j : Int))) →
    ∀ st, agc 0 [0, 3, 4, 5, 6, 7, 8, 9, 10] st = some ⟨[(0, .data false 8 LL f), (3, .ptr 0 0 0 0), (4, .own 1 0 a due.length due.length), (5, .int .i64 i), (6, .ptr 2 0 0 0), (7, .ptr 3 0 0 0), (8, .int .i64 e), (9, .own 4 0 0 rest.length rest.length), (10, .int .i64 k)], [⟨33, 0, true, [A]⟩, ⟨3, 0, true, P⟩, ⟨8, 0, true, [X]⟩, ⟨33, 0, true, [B]⟩, ⟨3, 0, true, pcs rest⟩]⟩ →
      aE G FT 0 lp_law30_SessionRights_1 st = some (.exit 3, ⟨[(0, .data false 8 LL f), (3, .ptr 0 0 0 0), (4, .own 1 0 a due.length due.length), (5, .int .i64 i), (6, .ptr 2 0 0 0), (7, .ptr 3 0 0 0), (8, .int .i64 e), (9, .own 4 0 0 (due.filter fun t => !decide (t.1 = (j : Int))).length (due.filter fun t => !decide (t.1 = (j : Int))).length), (10, .int .i64 due.length), (71, .bool false)], [⟨33, 0, true, [A]⟩, ⟨3, 0, true, P⟩, ⟨8, 0, true, [X]⟩, ⟨33, 0, true, [B]⟩, ⟨3, 0, true, pcs (due.filter fun t => !decide (t.1 = (j : Int)))⟩]⟩) := by
  have hPl := drop_len' hP ha
  intro m
  induction m with
  | zero =>
    intro k rest hk hr st hst
    obtain rfl : k = due.length := by omega
    rw [List.take_length] at hr
    subst hr
    have e0 : decide ((due.length : Int) < due.length) = false := by simp
    rw [lp_law30_SessionRights_1, y_loop, hst]
    (sym => simp [Qa,Qc,Qd,Qe,Qi,Qj,Qr,Qt,Qz,Q0,Q2,Q4,Xa,Xp,Xs,Xy,X0,X5,X9,Ya,Yg,Yj,Yr,Yt,Yu,Yv,Yx,Y2,Y9,Za,Zb,Zc,Ze,Zg,Zh,Zk,Zl,Zm,Zn,Zt,Zv,Zw,Zx,Zy,Zz,Z0,Z3,Jj,Jk,Jm,Jn,Jo,Jr,Js,Ju,Jv,Kv,Kx,Ua,Ub,Uc,Ud,Ue,Uf,Ug,Ul,Us,Ut,Ux,U0,U4,U5,U6,U7,Vb,Ve,Vk,Vm,Vo,Vp,Vq,Vr,Vs,Vt,Vu,Vv,Vw,Vx,Vy,Vz,V0,Hh,Hi,Hk,Hl,Ho,Hp,Hq,Hs,Hu,Hv,Hw,H1,H2,H3,H4,H5,H6,H8,Ng,Nh,Ni,Nk,Nl,Nm,No,Nu,Nw,Nx,Nz,N2,Be,Bg,q8R0.eq_1,q8R1.eq_1,q8R2.eq_1,q8R3.eq_1,q8R4.eq_1,q8R5.eq_1,q8R6.eq_1,q8R7.eq_1,q8R8.eq_1,q8R10.eq_1,q8R11.eq_1,q8R12.eq_1,q8R13.eq_1,q8R14.eq_1,q8R15.eq_1,q8R16.eq_1,q8R17.eq_1,q8R18.eq_1,q8R19.eq_1,q8R20.eq_1,q8R21.eq_1,q8R23.eq_1,q8R24.eq_1,q8R22.eq_1,q8R25.eq_1,q8R26.eq_1,q8R27.eq_1,q8R28.eq_1,q8R29.eq_1,q8R30.eq_1,q8R31.eq_1,q8R32.eq_1,q8R33.eq_1,q8R34.eq_1,q8R35.eq_1,q8R36.eq_1,q8R38.eq_1,q8R39.eq_1,q8R37.eq_1,q8R40.eq_1,q8R41.eq_1,q8R42.eq_1,q8R43.eq_1,q8R44.eq_1,q8R45.eq_1,q8R46.eq_1,q8R47.eq_1,q8R9.eq_1,q8R48.eq_1,c_law30_SessionRights.eq_1,c_law30_SessionRights_L1.eq_1,e0])
  | succ m ih =>
    intro k rest hk hr st hst
    have hlt : k < due.length := by omega
    have hlt' : (k : Int) < due.length := by omega
    have hw := wrap_nat (n := k) (by omega)
    have hg := (drop_at' hP k).trans (pcs_at hlt)
    have e1 : due.take (k + 1) = due.take k ++ [due[k]] := by rw [List.take_add_one, List.getElem?_eq_getElem hlt]; rfl
    have hrl : rest.length ≤ due.length := by rw [hr]; refine Nat.le_trans (List.length_filter_le _ _) ?_; rw [List.length_take]; omega
    have ih := fun rest hr => ih (k + 1) rest (by omega) hr
    rw [lp_law30_SessionRights_1] at ih
    rw [lp_law30_SessionRights_1, y_loop, hst]
    have hb : a + k < P.length := by omega
    by_cases hx : due[k].1 = (j : Int)
    · have ih := ih rest (by rw [e1, List.filter_append, ← hr]; simp [hx])
      generalize (due.filter fun t => !decide (t.1 = (j : Int))) = D at ih ⊢
      generalize due[k] = z at hg hx
      (sym => simp [Qa,Qc,Qd,Qe,Qi,Qj,Qr,Qt,Qz,Q0,Q2,Q4,Xa,Xp,Xs,Xy,X0,X5,X9,Ya,Yg,Yj,Yr,Yt,Yu,Yv,Yx,Y2,Y9,Za,Zb,Zc,Ze,Zg,Zh,Zk,Zl,Zm,Zn,Zt,Zv,Zw,Zx,Zy,Zz,Z0,Z3,Jj,Jk,Jm,Jn,Jo,Jr,Js,Ju,Jv,Kv,Kx,Ua,Ub,Uc,Ud,Ue,Uf,Ug,Ul,Us,Ut,Ux,U0,U4,U5,U6,U7,Vb,Ve,Vk,Vm,Vo,Vp,Vq,Vr,Vs,Vt,Vu,Vv,Vw,Vx,Vy,Vz,V0,Hh,Hi,Hk,Hl,Ho,Hp,Hq,Hs,Hu,Hv,Hw,H1,H2,H3,H4,H5,H6,H8,Ng,Nh,Ni,Nk,Nl,Nm,No,Nu,Nw,Nx,Nz,N2,Be,Bg,q8R0.eq_1,q8R1.eq_1,q8R2.eq_1,q8R3.eq_1,q8R4.eq_1,q8R5.eq_1,q8R6.eq_1,q8R7.eq_1,q8R8.eq_1,q8R10.eq_1,q8R11.eq_1,q8R12.eq_1,q8R13.eq_1,q8R14.eq_1,q8R15.eq_1,q8R16.eq_1,q8R17.eq_1,q8R18.eq_1,q8R19.eq_1,q8R20.eq_1,q8R21.eq_1,q8R23.eq_1,q8R24.eq_1,q8R22.eq_1,q8R25.eq_1,q8R26.eq_1,q8R27.eq_1,q8R28.eq_1,q8R29.eq_1,q8R30.eq_1,q8R31.eq_1,q8R32.eq_1,q8R33.eq_1,q8R34.eq_1,q8R35.eq_1,q8R36.eq_1,q8R38.eq_1,q8R39.eq_1,q8R37.eq_1,q8R40.eq_1,q8R41.eq_1,q8R42.eq_1,q8R43.eq_1,q8R44.eq_1,q8R45.eq_1,q8R46.eq_1,q8R47.eq_1,q8R9.eq_1,q8R48.eq_1,c_law30_SessionRights.eq_1,c_law30_SessionRights_L1.eq_1,hlt',hg,hw,hX,hx,hPl,hb]; tactic => (
        refine ih _ ?_
        (sym => simp [Qa,Qc,Qd,Qe,Qi,Qj,Qr,Qt,Qz,Q0,Q2,Q4,Xa,Xp,Xs,Xy,X0,X5,X9,Ya,Yg,Yj,Yr,Yt,Yu,Yv,Yx,Y2,Y9,Za,Zb,Zc,Ze,Zg,Zh,Zk,Zl,Zm,Zn,Zt,Zv,Zw,Zx,Zy,Zz,Z0,Z3,Jj,Jk,Jm,Jn,Jo,Jr,Js,Ju,Jv,Kv,Kx,Ua,Ub,Uc,Ud,Ue,Uf,Ug,Ul,Us,Ut,Ux,U0,U4,U5,U6,U7,Vb,Ve,Vk,Vm,Vo,Vp,Vq,Vr,Vs,Vt,Vu,Vv,Vw,Vx,Vy,Vz,V0,Hh,Hi,Hk,Hl,Ho,Hp,Hq,Hs,Hu,Hv,Hw,H1,H2,H3,H4,H5,H6,H8,Ng,Nh,Ni,Nk,Nl,Nm,No,Nu,Nw,Nx,Nz,N2,Be,Bg])))
    · have ih := ih (rest ++ [due[k]]) (by rw [e1, List.filter_append, ← hr]; simp [hx])
      have lo : (pcs rest).length = rest.length := pcs_len rest
      have b1 : (rest.length + 1) * 40 ≤ 140737488355328 := by omega
      have n1 : rest.length + 1 ≤ rest.length ↔ False := by simp
      have tk : List.take rest.length (pcs rest) = pcs rest := List.take_of_length_le (by omega)
      have e2 : pcs (rest ++ [due[k]]) = pcs rest ++ [[.int .i64 due[k].1, .int .i64 due[k].2.1, .data false 1 (byt due[k].2.2.1) due[k].2.2.2]] := by rw [pcs_append]; rfl
      have e3 : (rest ++ [due[k]]).length = rest.length + 1 := by simp
      rw [e2, e3] at ih
      generalize (due.filter fun t => !decide (t.1 = (j : Int))) = D at ih ⊢
      generalize due[k] = z at hg hx ih
      generalize pcs rest = R at *
      generalize rest.length = rl at *
      (sym => simp [Qa,Qc,Qd,Qe,Qi,Qj,Qr,Qt,Qz,Q0,Q2,Q4,Xa,Xp,Xs,Xy,X0,X5,X9,Ya,Yg,Yj,Yr,Yt,Yu,Yv,Yx,Y2,Y9,Za,Zb,Zc,Ze,Zg,Zh,Zk,Zl,Zm,Zn,Zt,Zv,Zw,Zx,Zy,Zz,Z0,Z3,Jj,Jk,Jm,Jn,Jo,Jr,Js,Ju,Jv,Kv,Kx,Ua,Ub,Uc,Ud,Ue,Uf,Ug,Ul,Us,Ut,Ux,U0,U4,U5,U6,U7,Vb,Ve,Vk,Vm,Vo,Vp,Vq,Vr,Vs,Vt,Vu,Vv,Vw,Vx,Vy,Vz,V0,Hh,Hi,Hk,Hl,Ho,Hp,Hq,Hs,Hu,Hv,Hw,H1,H2,H3,H4,H5,H6,H8,Ng,Nh,Ni,Nk,Nl,Nm,No,Nu,Nw,Nx,Nz,N2,Be,Bg,q8R0.eq_1,q8R1.eq_1,q8R2.eq_1,q8R3.eq_1,q8R4.eq_1,q8R5.eq_1,q8R6.eq_1,q8R7.eq_1,q8R8.eq_1,q8R10.eq_1,q8R11.eq_1,q8R12.eq_1,q8R13.eq_1,q8R14.eq_1,q8R15.eq_1,q8R16.eq_1,q8R17.eq_1,q8R18.eq_1,q8R19.eq_1,q8R20.eq_1,q8R21.eq_1,q8R23.eq_1,q8R24.eq_1,q8R22.eq_1,q8R25.eq_1,q8R26.eq_1,q8R27.eq_1,q8R28.eq_1,q8R29.eq_1,q8R30.eq_1,q8R31.eq_1,q8R32.eq_1,q8R33.eq_1,q8R34.eq_1,q8R35.eq_1,q8R36.eq_1,q8R38.eq_1,q8R39.eq_1,q8R37.eq_1,q8R40.eq_1,q8R41.eq_1,q8R42.eq_1,q8R43.eq_1,q8R44.eq_1,q8R45.eq_1,q8R46.eq_1,q8R47.eq_1,q8R9.eq_1,q8R48.eq_1,c_law30_SessionRights.eq_1,c_law30_SessionRights_L1.eq_1,hlt',hg,hw,hX,hx,hPl,hb,lo,b1,n1,tk]; tactic => (
        refine ih _ ?_
        (sym => simp [Qa,Qc,Qd,Qe,Qi,Qj,Qr,Qt,Qz,Q0,Q2,Q4,Xa,Xp,Xs,Xy,X0,X5,X9,Ya,Yg,Yj,Yr,Yt,Yu,Yv,Yx,Y2,Y9,Za,Zb,Zc,Ze,Zg,Zh,Zk,Zl,Zm,Zn,Zt,Zv,Zw,Zx,Zy,Zz,Z0,Z3,Jj,Jk,Jm,Jn,Jo,Jr,Js,Ju,Jv,Kv,Kx,Ua,Ub,Uc,Ud,Ue,Uf,Ug,Ul,Us,Ut,Ux,U0,U4,U5,U6,U7,Vb,Ve,Vk,Vm,Vo,Vp,Vq,Vr,Vs,Vt,Vu,Vv,Vw,Vx,Vy,Vz,V0,Hh,Hi,Hk,Hl,Ho,Hp,Hq,Hs,Hu,Hv,Hw,H1,H2,H3,H4,H5,H6,H8,Ng,Nh,Ni,Nk,Nl,Nm,No,Nu,Nw,Nx,Nz,N2,Be,Bg,lo,tk])))
theorem core_at {x y : Pc} (h : core x = core y) : x.1 = y.1 ∧ x.2.1 = y.2.1 ∧ x.2.2.1 = y.2.2.1 := by
  simp only [core, Prod.mk.injEq] at h
  exact h
theorem ri_loop2 (LL : List (List AV)) (f : Bool) (A B : List AV) (P : List (List AV)) (a : Nat) (due : List Pc) (hP : P.drop a = pcs due) (ha : a ≤ P.length) (hn : due.length ≤ 1000) (i : Nat) (e : Int) (out : List Pc) (fo : Bool) (hol : out.length ≤ due.length) (hoc : coreQ out = coreQ (due.take out.length)) : ∀ (m k : Nat), k + m = out.length →
    aE G FT 0 lp_law30_SessionRights_2 ⟨[(0, .data false 8 LL f), (3, .ptr 0 0 0 0), (4, .own 1 0 a due.length due.length), (5, .int .i64 i), (7, .ptr 2 0 0 0), (8, .int .i64 e), (11, .data false 3 (pcs out) fo), (12, .int .i64 k)], [⟨33, 0, true, [A]⟩, ⟨3, 0, true, P⟩, ⟨33, 0, true, [B]⟩]⟩ =
      some (.exit 5, ⟨[(0, .data false 8 LL f), (3, .ptr 0 0 0 0), (4, .own 1 0 a due.length due.length), (5, .int .i64 i), (7, .ptr 2 0 0 0), (8, .int .i64 e), (11, .data false 3 (pcs out) fo), (12, .int .i64 out.length), (171, .bool false)], [⟨33, 0, true, [A]⟩, ⟨3, 0, true, P⟩, ⟨33, 0, true, [B]⟩]⟩) := by
  have hPl := drop_len' hP ha
  have lo := pcs_len out
  intro m
  induction m with
  | zero =>
    intro k hk
    obtain rfl : k = out.length := by omega
    have e0 : decide ((out.length : Int) < out.length) = false := by simp
    rw [lp_law30_SessionRights_2, y_loop]
    (sym => simp [Qa,Qc,Qd,Qe,Qf,Qg,Qi,Qj,Qr,Qt,Qu,Q4,Xa,Xb,Xi,Xp,Xs,Xy,X5,X9,Ya,Yd,Yg,Yh,Yr,Ys,Yt,Yv,Yw,Yx,Yy,Y3,Y9,Za,Zb,Zc,Ze,Zg,Zh,Zk,Zl,Zm,Zn,Zt,Zv,Zw,Zx,Zy,Zz,Z0,Z3,Jb,Jg,Jj,Jk,Jm,Jn,Jo,Jr,Js,Ju,Jv,Kj,Kn,Us,Ut,Ux,U0,U4,U5,U6,U7,Vb,Ve,Vk,Vm,Vo,Vp,Vq,Vr,Vs,Vt,Vu,Vv,Vw,Vx,Vy,Vz,V0,Hf,Hh,Hi,Hp,Hr,Hs,Hu,Hv,Hw,H1,H4,H5,H6,Ni,Nk,Nl,Nm,No,Nu,Nw,Nx,Nz,Be,q8R0.eq_1,q8R1.eq_1,q8R2.eq_1,q8R3.eq_1,q8R4.eq_1,q8R5.eq_1,q8R6.eq_1,q8R7.eq_1,q8R8.eq_1,q8R10.eq_1,q8R11.eq_1,q8R12.eq_1,q8R13.eq_1,q8R14.eq_1,q8R15.eq_1,q8R16.eq_1,q8R17.eq_1,q8R18.eq_1,q8R19.eq_1,q8R20.eq_1,q8R21.eq_1,q8R23.eq_1,q8R24.eq_1,q8R22.eq_1,q8R25.eq_1,q8R26.eq_1,q8R27.eq_1,q8R28.eq_1,q8R29.eq_1,q8R30.eq_1,q8R31.eq_1,q8R32.eq_1,q8R33.eq_1,q8R34.eq_1,q8R35.eq_1,q8R36.eq_1,q8R38.eq_1,q8R39.eq_1,q8R37.eq_1,q8R40.eq_1,q8R41.eq_1,q8R42.eq_1,q8R43.eq_1,q8R44.eq_1,q8R45.eq_1,q8R46.eq_1,q8R47.eq_1,q8R9.eq_1,q8R48.eq_1,c_law30_SessionRights.eq_1,c_law30_SessionRights_L2.eq_1,e0,lo])
  | succ m ih =>
    intro k hk
    have hlt : k < out.length := by omega
    have hlt' : (k : Int) < out.length := by omega
    have hld : k < due.length := by omega
    have hld' : (k : Int) < due.length := by omega
    have hld2 : ¬ (due.length : Int) ≤ k := by omega
    have hw := wrap_nat (n := k) (by omega)
    have hg := (drop_at' hP k).trans (pcs_at hld)
    have hg2 := pcs_at hlt
    have hb : a + k < P.length := by omega
    have hc : core out[k] = core due[k] := by
      have := congrArg (fun l => l[k]?) hoc
      simp only [coreQ, List.getElem?_map, List.getElem?_eq_getElem hlt, Option.map_some] at this
      rw [List.getElem?_take, if_pos hlt, List.getElem?_eq_getElem hld] at this
      exact Option.some.inj this
    obtain ⟨c1, c2, c3⟩ := core_at hc
    rw [c1, c2, c3] at hg2
    have hbs := asb_bso due[k].2.2.1
    have hbe : ((⟨(bso due[k].2.2.1).toArray⟩ : ByteArray) == ⟨(bso due[k].2.2.1).toArray⟩) = true := bEq_self due[k].2.2.1
    have ih := ih (k + 1) (by omega)
    rw [lp_law30_SessionRights_2] at ih
    rw [← ih, lp_law30_SessionRights_2, y_loop]
    generalize due[k] = z at hg hg2 hbs hbe
    have tkb : List.take z.2.2.1.length (byt z.2.2.1) = byt z.2.2.1 := List.take_of_length_le (by rw [byt_len]; exact Nat.le_refl _)
    (sym => simp [Qa,Qc,Qd,Qe,Qf,Qg,Qi,Qj,Qr,Qt,Qu,Q4,Xa,Xb,Xi,Xp,Xs,Xy,X5,X9,Ya,Yd,Yg,Yh,Yr,Ys,Yt,Yv,Yw,Yx,Yy,Y3,Y9,Za,Zb,Zc,Ze,Zg,Zh,Zk,Zl,Zm,Zn,Zt,Zv,Zw,Zx,Zy,Zz,Z0,Z3,Jb,Jg,Jj,Jk,Jm,Jn,Jo,Jr,Js,Ju,Jv,Kj,Kn,Us,Ut,Ux,U0,U4,U5,U6,U7,Vb,Ve,Vk,Vm,Vo,Vp,Vq,Vr,Vs,Vt,Vu,Vv,Vw,Vx,Vy,Vz,V0,Hf,Hh,Hi,Hp,Hr,Hs,Hu,Hv,Hw,H1,H4,H5,H6,Ni,Nk,Nl,Nm,No,Nu,Nw,Nx,Nz,Be,q8R0.eq_1,q8R1.eq_1,q8R2.eq_1,q8R3.eq_1,q8R4.eq_1,q8R5.eq_1,q8R6.eq_1,q8R7.eq_1,q8R8.eq_1,q8R10.eq_1,q8R11.eq_1,q8R12.eq_1,q8R13.eq_1,q8R14.eq_1,q8R15.eq_1,q8R16.eq_1,q8R17.eq_1,q8R18.eq_1,q8R19.eq_1,q8R20.eq_1,q8R21.eq_1,q8R23.eq_1,q8R24.eq_1,q8R22.eq_1,q8R25.eq_1,q8R26.eq_1,q8R27.eq_1,q8R28.eq_1,q8R29.eq_1,q8R30.eq_1,q8R31.eq_1,q8R32.eq_1,q8R33.eq_1,q8R34.eq_1,q8R35.eq_1,q8R36.eq_1,q8R38.eq_1,q8R39.eq_1,q8R37.eq_1,q8R40.eq_1,q8R41.eq_1,q8R42.eq_1,q8R43.eq_1,q8R44.eq_1,q8R45.eq_1,q8R46.eq_1,q8R47.eq_1,q8R9.eq_1,q8R48.eq_1,c_law30_SessionRights.eq_1,c_law30_SessionRights_L2.eq_1,hlt',hld',hld2,hg,hg2,hw,hPl,hb,lo,hbs,hbe,tkb])
def riSt (l : List Rst) (f : Bool) (s : Ses) (due : List Pc) (a : Nat) (P : List (List AV)) (i : Nat) : ASt :=
  ⟨[(0, .data false 8 (rsts l) f), (3, .ptr 0 0 0 0), (4, .own 1 0 a due.length due.length), (5, .int .i64 i)], [⟨33, 0, true, [sC s]⟩, ⟨3, 0, true, P⟩]⟩
theorem ri_join (l : List Rst) (f : Bool) (hl : l.length ≤ 150) (i : Nat) (hi : i < l.length) (kd n r dk dr dcc : Int) (dt : List Int) (df : Bool) (j : Nat) (hx : l[i] = (kd, (j : Int), n, r, dk, dt, dr, dcc, df)) (h1 : 1 ≤ j) (h8 : j ≤ 8) (ht : dt.length ≤ 16) (hnn : n ≤ 9223372036854775807) (s : Ses) (due : List Pc) (h : RInv s due) (a : Nat) (P : List (List AV)) (hP : P.drop a = pcs due) (ha : a ≤ P.length) (hk : kd = 0)
    (st : ASt) (hst : agc 0 [0, 3, 4, 5] st = some (riSt l f s due a P i)) (Q : Option (AEx × ASt) → Prop)
    (hnext : ∀ s' due' a' P', RInv s' due' → List.drop a' P' = pcs due' → a' ≤ List.length P' → ∀ st', agc 0 [0, 3, 4, 5] st' = some (riSt l f s' due' a' P' (i + 1)) → Q (aE G FT 0 lp_law30_SessionRights_0 st')) :
    Q (aE G FT 0 lp_law30_SessionRights_0 st) := by
  have oks := okS_may h.may
  have hdl := core_len h.due
  have hdn : due.length ≤ 1000 := by have := oks.2.2.1; omega
  have hPl := drop_len' hP ha
  have hil : (i : Int) < l.length := by omega
  have hg := rsts_at hi
  rw [hx] at hg
  simp only [rstC] at hg
  have hln := rsts_len l
  have hw := wrap_nat (n := i) (by omega)
  have hbl := byt_len dt
  have g1 : ¬ (j : Int) < 1 := by omega
  have g2 : ¬ (8 : Int) < j := by omega
  have g3 : ¬ (16 : Int) < dt.length := by omega
  have a1 := sC_len s
  have a2 := sC_st s
  have a3 := sC_all s
  have a4 := sC_v s
  have a5 : (sC s).drop 33 = [] := rfl
  unfold riSt at hst hnext
  rw [lp_law30_SessionRights_0] at hnext
  rw [lp_law30_SessionRights_0, y_loop, hst]
  subst hk
  have hJ := join30_P G s oks j r
  rcases join_inv h j r with ⟨x, e, hi⟩ | ⟨e, he, e2⟩
  · rw [e] at hJ
    simp only at hJ
    have x1 := sC_len x
    have x2 := sC_st x
    have x3 := sC_all x
    have x4 := sC_v x
    have x5 : (sC x).drop 33 = [] := rfl
    have x6 := sC_1 x
    have x7 := sC_3 x
    have okx := okS_may hi.may
    have hMx := smay30_P G x okx
    rw [hi.may] at hMx
    have hRx := role30_P G x x.h okx.1
    have hLx := least30_P G x hi.may
    rw [hi.least] at hLx
    have hho := holds hi.may
    have hql : (pcs x.q).length = due.length := by rw [pcs_len]; exact (core_len hi.due).symm
    by_cases h0 : x.h = 0
    · rw [h0] at hRx x6
      have hnx := hnext x (due) (a) (P) hi hP ha
      generalize sC x = scx at *
      generalize sC s = scs at *
      (sym => simp [Qa,Qc,Qd,Qe,Qf,Qg,Qi,Qj,Qm,Qn,Qo,Qr,Qt,Qu,Qv,Q4,Q5,Xa,Xd,Xp,Xs,Xw,Xx,Xy,X5,X8,X9,Ya,Yc,Yg,Yh,Yr,Ys,Yt,Yu,Yv,Yy,Y9,Za,Zb,Zc,Zd,Ze,Zg,Zh,Zk,Zl,Zm,Zn,Zo,Zt,Zv,Zw,Zx,Zy,Zz,Z0,Z1,Z3,Ja,Jb,Jj,Jk,Jm,Jn,Jo,Jq,Jr,Js,Jv,J1,J2,Ue,Uf,Ug,Ul,Us,Ut,Ux,U0,U4,U5,U6,U7,Vb,Ve,Vk,Vm,Vo,Vp,Vq,Vr,Vs,Vt,Vu,Vv,Vw,Vx,Vy,Vz,V0,V3,V6,Wd,We,Hh,Hi,Hk,Hl,Ho,Hp,Hq,Hr,Hs,Ht,Hu,Hv,Hw,H1,H4,H5,H6,Ne,Ni,Nk,Nl,Nm,No,Nu,Nw,Nx,N0,Be,Bh,q8R0.eq_1,q8R1.eq_1,q8R2.eq_1,q8R3.eq_1,q8R4.eq_1,q8R5.eq_1,q8R6.eq_1,q8R7.eq_1,q8R8.eq_1,q8R10.eq_1,q8R11.eq_1,q8R12.eq_1,q8R13.eq_1,q8R14.eq_1,q8R15.eq_1,q8R16.eq_1,q8R17.eq_1,q8R18.eq_1,q8R19.eq_1,q8R20.eq_1,q8R21.eq_1,q8R23.eq_1,q8R24.eq_1,q8R22.eq_1,q8R25.eq_1,q8R26.eq_1,q8R27.eq_1,q8R28.eq_1,q8R29.eq_1,q8R30.eq_1,q8R31.eq_1,q8R32.eq_1,q8R33.eq_1,q8R34.eq_1,q8R35.eq_1,q8R36.eq_1,q8R38.eq_1,q8R39.eq_1,q8R37.eq_1,q8R40.eq_1,q8R41.eq_1,q8R42.eq_1,q8R43.eq_1,q8R44.eq_1,q8R45.eq_1,q8R46.eq_1,q8R47.eq_1,q8R9.eq_1,q8R48.eq_1,c_law30_SessionRights.eq_1,c_law30_SessionRights_L0.eq_1,hil,hg,hln,hw,hbl,g1,g2,g3,a1,a2,a3,a4,a5,List.append_nil,hJ,x1,x2,x3,x4,x5,x6,x7,hMx,hRx,hLx,hql,h0]; tactic => (
        refine hnx _ ?_
        (sym => simp [Qa,Qc,Qd,Qe,Qf,Qg,Qi,Qj,Qm,Qn,Qo,Qr,Qt,Qu,Qv,Q4,Q5,Xa,Xd,Xp,Xs,Xw,Xx,Xy,X5,X8,X9,Ya,Yc,Yg,Yh,Yr,Ys,Yt,Yu,Yv,Yy,Y9,Za,Zb,Zc,Zd,Ze,Zg,Zh,Zk,Zl,Zm,Zn,Zo,Zt,Zv,Zw,Zx,Zy,Zz,Z0,Z1,Z3,Ja,Jb,Jj,Jk,Jm,Jn,Jo,Jq,Jr,Js,Jv,J1,J2,Ue,Uf,Ug,Ul,Us,Ut,Ux,U0,U4,U5,U6,U7,Vb,Ve,Vk,Vm,Vo,Vp,Vq,Vr,Vs,Vt,Vu,Vv,Vw,Vx,Vy,Vz,V0,V3,V6,Wd,We,Hh,Hi,Hk,Hl,Ho,Hp,Hq,Hr,Hs,Ht,Hu,Hv,Hw,H1,H4,H5,H6,Ne,Ni,Nk,Nl,Nm,No,Nu,Nw,Nx,N0,Be,Bh,x5,a5,List.append_nil])))
    · have hro := hho h0
      rw [hro] at hRx
      have hnx := hnext x (due) (a) (P) hi hP ha
      generalize sC x = scx at *
      generalize sC s = scs at *
      (sym => simp [Qa,Qc,Qd,Qe,Qf,Qg,Qi,Qj,Qm,Qn,Qo,Qr,Qt,Qu,Qv,Q4,Q5,Xa,Xd,Xp,Xs,Xw,Xx,Xy,X5,X8,X9,Ya,Yc,Yg,Yh,Yr,Ys,Yt,Yu,Yv,Yy,Y9,Za,Zb,Zc,Zd,Ze,Zg,Zh,Zk,Zl,Zm,Zn,Zo,Zt,Zv,Zw,Zx,Zy,Zz,Z0,Z1,Z3,Ja,Jb,Jj,Jk,Jm,Jn,Jo,Jq,Jr,Js,Jv,J1,J2,Ue,Uf,Ug,Ul,Us,Ut,Ux,U0,U4,U5,U6,U7,Vb,Ve,Vk,Vm,Vo,Vp,Vq,Vr,Vs,Vt,Vu,Vv,Vw,Vx,Vy,Vz,V0,V3,V6,Wd,We,Hh,Hi,Hk,Hl,Ho,Hp,Hq,Hr,Hs,Ht,Hu,Hv,Hw,H1,H4,H5,H6,Ne,Ni,Nk,Nl,Nm,No,Nu,Nw,Nx,N0,Be,Bh,q8R0.eq_1,q8R1.eq_1,q8R2.eq_1,q8R3.eq_1,q8R4.eq_1,q8R5.eq_1,q8R6.eq_1,q8R7.eq_1,q8R8.eq_1,q8R10.eq_1,q8R11.eq_1,q8R12.eq_1,q8R13.eq_1,q8R14.eq_1,q8R15.eq_1,q8R16.eq_1,q8R17.eq_1,q8R18.eq_1,q8R19.eq_1,q8R20.eq_1,q8R21.eq_1,q8R23.eq_1,q8R24.eq_1,q8R22.eq_1,q8R25.eq_1,q8R26.eq_1,q8R27.eq_1,q8R28.eq_1,q8R29.eq_1,q8R30.eq_1,q8R31.eq_1,q8R32.eq_1,q8R33.eq_1,q8R34.eq_1,q8R35.eq_1,q8R36.eq_1,q8R38.eq_1,q8R39.eq_1,q8R37.eq_1,q8R40.eq_1,q8R41.eq_1,q8R42.eq_1,q8R43.eq_1,q8R44.eq_1,q8R45.eq_1,q8R46.eq_1,q8R47.eq_1,q8R9.eq_1,q8R48.eq_1,c_law30_SessionRights.eq_1,c_law30_SessionRights_L0.eq_1,hil,hg,hln,hw,hbl,g1,g2,g3,a1,a2,a3,a4,a5,List.append_nil,hJ,x1,x2,x3,x4,x5,x6,x7,hMx,hRx,hLx,hql,h0]; tactic => (
        refine hnx _ ?_
        (sym => simp [Qa,Qc,Qd,Qe,Qf,Qg,Qi,Qj,Qm,Qn,Qo,Qr,Qt,Qu,Qv,Q4,Q5,Xa,Xd,Xp,Xs,Xw,Xx,Xy,X5,X8,X9,Ya,Yc,Yg,Yh,Yr,Ys,Yt,Yu,Yv,Yy,Y9,Za,Zb,Zc,Zd,Ze,Zg,Zh,Zk,Zl,Zm,Zn,Zo,Zt,Zv,Zw,Zx,Zy,Zz,Z0,Z1,Z3,Ja,Jb,Jj,Jk,Jm,Jn,Jo,Jq,Jr,Js,Jv,J1,J2,Ue,Uf,Ug,Ul,Us,Ut,Ux,U0,U4,U5,U6,U7,Vb,Ve,Vk,Vm,Vo,Vp,Vq,Vr,Vs,Vt,Vu,Vv,Vw,Vx,Vy,Vz,V0,V3,V6,Wd,We,Hh,Hi,Hk,Hl,Ho,Hp,Hq,Hr,Hs,Ht,Hu,Hv,Hw,H1,H4,H5,H6,Ne,Ni,Nk,Nl,Nm,No,Nu,Nw,Nx,N0,Be,Bh,x5,a5,List.append_nil])))
  · rw [e2] at hJ
    simp only at hJ
    have z1 := sC_len zS
    have z2 := sC_st zS
    have z3 := sC_all zS
    have z5 : (sC zS).drop 33 = [] := rfl
    have z6 : (sC zS)[0]? = some (.data false 2 [] false) := rfl
    generalize sC zS = scz at *
    have hnx := hnext s (due) (a) (P) h hP ha
    generalize sC s = scs at *
    (sym => simp [Qa,Qc,Qd,Qe,Qf,Qg,Qi,Qj,Qm,Qn,Qo,Qr,Qt,Qu,Qv,Q4,Q5,Xa,Xd,Xp,Xs,Xw,Xx,Xy,X5,X8,X9,Ya,Yc,Yg,Yh,Yr,Ys,Yt,Yu,Yv,Yy,Y9,Za,Zb,Zc,Zd,Ze,Zg,Zh,Zk,Zl,Zm,Zn,Zo,Zt,Zv,Zw,Zx,Zy,Zz,Z0,Z1,Z3,Ja,Jb,Jj,Jk,Jm,Jn,Jo,Jq,Jr,Js,Jv,J1,J2,Ue,Uf,Ug,Ul,Us,Ut,Ux,U0,U4,U5,U6,U7,Vb,Ve,Vk,Vm,Vo,Vp,Vq,Vr,Vs,Vt,Vu,Vv,Vw,Vx,Vy,Vz,V0,V3,V6,Wd,We,Hh,Hi,Hk,Hl,Ho,Hp,Hq,Hr,Hs,Ht,Hu,Hv,Hw,H1,H4,H5,H6,Ne,Ni,Nk,Nl,Nm,No,Nu,Nw,Nx,N0,Be,Bh,q8R0.eq_1,q8R1.eq_1,q8R2.eq_1,q8R3.eq_1,q8R4.eq_1,q8R5.eq_1,q8R6.eq_1,q8R7.eq_1,q8R8.eq_1,q8R10.eq_1,q8R11.eq_1,q8R12.eq_1,q8R13.eq_1,q8R14.eq_1,q8R15.eq_1,q8R16.eq_1,q8R17.eq_1,q8R18.eq_1,q8R19.eq_1,q8R20.eq_1,q8R21.eq_1,q8R23.eq_1,q8R24.eq_1,q8R22.eq_1,q8R25.eq_1,q8R26.eq_1,q8R27.eq_1,q8R28.eq_1,q8R29.eq_1,q8R30.eq_1,q8R31.eq_1,q8R32.eq_1,q8R33.eq_1,q8R34.eq_1,q8R35.eq_1,q8R36.eq_1,q8R38.eq_1,q8R39.eq_1,q8R37.eq_1,q8R40.eq_1,q8R41.eq_1,q8R42.eq_1,q8R43.eq_1,q8R44.eq_1,q8R45.eq_1,q8R46.eq_1,q8R47.eq_1,q8R9.eq_1,q8R48.eq_1,c_law30_SessionRights.eq_1,c_law30_SessionRights_L0.eq_1,hil,hg,hln,hw,hbl,g1,g2,g3,a1,a2,a3,a4,a5,List.append_nil,hJ,z1,z2,z3,z5,z6,he]; tactic => (
      refine hnx _ ?_
      (sym => simp [Qa,Qc,Qd,Qe,Qf,Qg,Qi,Qj,Qm,Qn,Qo,Qr,Qt,Qu,Qv,Q4,Q5,Xa,Xd,Xp,Xs,Xw,Xx,Xy,X5,X8,X9,Ya,Yc,Yg,Yh,Yr,Ys,Yt,Yu,Yv,Yy,Y9,Za,Zb,Zc,Zd,Ze,Zg,Zh,Zk,Zl,Zm,Zn,Zo,Zt,Zv,Zw,Zx,Zy,Zz,Z0,Z1,Z3,Ja,Jb,Jj,Jk,Jm,Jn,Jo,Jq,Jr,Js,Jv,J1,J2,Ue,Uf,Ug,Ul,Us,Ut,Ux,U0,U4,U5,U6,U7,Vb,Ve,Vk,Vm,Vo,Vp,Vq,Vr,Vs,Vt,Vu,Vv,Vw,Vx,Vy,Vz,V0,V3,V6,Wd,We,Hh,Hi,Hk,Hl,Ho,Hp,Hq,Hr,Hs,Ht,Hu,Hv,Hw,H1,H4,H5,H6,Ne,Ni,Nk,Nl,Nm,No,Nu,Nw,Nx,N0,Be,Bh,a5,List.append_nil])))
theorem ri_change (l : List Rst) (f : Bool) (hl : l.length ≤ 150) (i : Nat) (hi : i < l.length) (kd n r dk dr dcc : Int) (dt : List Int) (df : Bool) (j : Nat) (hx : l[i] = (kd, (j : Int), n, r, dk, dt, dr, dcc, df)) (h1 : 1 ≤ j) (h8 : j ≤ 8) (ht : dt.length ≤ 16) (hnn : n ≤ 9223372036854775807) (s : Ses) (due : List Pc) (h : RInv s due) (a : Nat) (P : List (List AV)) (hP : P.drop a = pcs due) (ha : a ≤ P.length) (hk : kd = 2)
    (st : ASt) (hst : agc 0 [0, 3, 4, 5] st = some (riSt l f s due a P i)) (Q : Option (AEx × ASt) → Prop)
    (hnext : ∀ s' due' a' P', RInv s' due' → List.drop a' P' = pcs due' → a' ≤ List.length P' → ∀ st', agc 0 [0, 3, 4, 5] st' = some (riSt l f s' due' a' P' (i + 1)) → Q (aE G FT 0 lp_law30_SessionRights_0 st')) :
    Q (aE G FT 0 lp_law30_SessionRights_0 st) := by
  have oks := okS_may h.may
  have hdl := core_len h.due
  have hdn : due.length ≤ 1000 := by have := oks.2.2.1; omega
  have hPl := drop_len' hP ha
  have hil : (i : Int) < l.length := by omega
  have hg := rsts_at hi
  rw [hx] at hg
  simp only [rstC] at hg
  have hln := rsts_len l
  have hw := wrap_nat (n := i) (by omega)
  have hbl := byt_len dt
  have g1 : ¬ (j : Int) < 1 := by omega
  have g2 : ¬ (8 : Int) < j := by omega
  have g3 : ¬ (16 : Int) < dt.length := by omega
  have a1 := sC_len s
  have a2 := sC_st s
  have a3 := sC_all s
  have a4 := sC_v s
  have a5 : (sC s).drop 33 = [] := rfl
  unfold riSt at hst hnext
  rw [lp_law30_SessionRights_0] at hnext
  rw [lp_law30_SessionRights_0, y_loop, hst]
  subst hk
  have hJ := change30_P G s oks j r
  rcases change_inv h j r with ⟨x, e, hi⟩ | ⟨e, he, e2⟩
  · rw [e] at hJ
    simp only at hJ
    have x1 := sC_len x
    have x2 := sC_st x
    have x3 := sC_all x
    have x4 := sC_v x
    have x5 : (sC x).drop 33 = [] := rfl
    have x6 := sC_1 x
    have x7 := sC_3 x
    have okx := okS_may hi.may
    have hMx := smay30_P G x okx
    rw [hi.may] at hMx
    have hRx := role30_P G x x.h okx.1
    have hLx := least30_P G x hi.may
    rw [hi.least] at hLx
    have hho := holds hi.may
    have hql : (pcs x.q).length = due.length := by rw [pcs_len]; exact (core_len hi.due).symm
    by_cases h0 : x.h = 0
    · rw [h0] at hRx x6
      have hnx := hnext x (due) (a) (P) hi hP ha
      generalize sC x = scx at *
      generalize sC s = scs at *
      (sym => simp [Qa,Qc,Qd,Qe,Qf,Qg,Qi,Qj,Qm,Qn,Qo,Qr,Qt,Qu,Qv,Q4,Q5,Xa,Xd,Xp,Xs,Xw,Xx,Xy,X5,X8,X9,Ya,Yc,Yg,Yh,Yr,Ys,Yt,Yu,Yv,Yy,Y9,Za,Zb,Zc,Zd,Ze,Zg,Zh,Zk,Zl,Zm,Zn,Zo,Zt,Zv,Zw,Zx,Zy,Zz,Z0,Z1,Z3,Ja,Jb,Jj,Jk,Jm,Jn,Jo,Jq,Jr,Js,Jv,J1,J2,Ue,Uf,Ug,Ul,Us,Ut,Ux,U0,U4,U5,U6,U7,Vb,Ve,Vk,Vm,Vo,Vp,Vq,Vr,Vs,Vt,Vu,Vv,Vw,Vx,Vy,Vz,V0,V3,V6,Wd,We,Hh,Hi,Hk,Hl,Ho,Hp,Hq,Hr,Hs,Ht,Hu,Hv,Hw,H1,H4,H5,H6,Ne,Ni,Nk,Nl,Nm,No,Nu,Nw,Nx,N0,Be,Bh,q8R0.eq_1,q8R1.eq_1,q8R2.eq_1,q8R3.eq_1,q8R4.eq_1,q8R5.eq_1,q8R6.eq_1,q8R7.eq_1,q8R8.eq_1,q8R10.eq_1,q8R11.eq_1,q8R12.eq_1,q8R13.eq_1,q8R14.eq_1,q8R15.eq_1,q8R16.eq_1,q8R17.eq_1,q8R18.eq_1,q8R19.eq_1,q8R20.eq_1,q8R21.eq_1,q8R23.eq_1,q8R24.eq_1,q8R22.eq_1,q8R25.eq_1,q8R26.eq_1,q8R27.eq_1,q8R28.eq_1,q8R29.eq_1,q8R30.eq_1,q8R31.eq_1,q8R32.eq_1,q8R33.eq_1,q8R34.eq_1,q8R35.eq_1,q8R36.eq_1,q8R38.eq_1,q8R39.eq_1,q8R37.eq_1,q8R40.eq_1,q8R41.eq_1,q8R42.eq_1,q8R43.eq_1,q8R44.eq_1,q8R45.eq_1,q8R46.eq_1,q8R47.eq_1,q8R9.eq_1,q8R48.eq_1,c_law30_SessionRights.eq_1,c_law30_SessionRights_L0.eq_1,hil,hg,hln,hw,hbl,g1,g2,g3,a1,a2,a3,a4,a5,List.append_nil,hJ,x1,x2,x3,x4,x5,x6,x7,hMx,hRx,hLx,hql,h0]; tactic => (
        refine hnx _ ?_
        (sym => simp [Qa,Qc,Qd,Qe,Qf,Qg,Qi,Qj,Qm,Qn,Qo,Qr,Qt,Qu,Qv,Q4,Q5,Xa,Xd,Xp,Xs,Xw,Xx,Xy,X5,X8,X9,Ya,Yc,Yg,Yh,Yr,Ys,Yt,Yu,Yv,Yy,Y9,Za,Zb,Zc,Zd,Ze,Zg,Zh,Zk,Zl,Zm,Zn,Zo,Zt,Zv,Zw,Zx,Zy,Zz,Z0,Z1,Z3,Ja,Jb,Jj,Jk,Jm,Jn,Jo,Jq,Jr,Js,Jv,J1,J2,Ue,Uf,Ug,Ul,Us,Ut,Ux,U0,U4,U5,U6,U7,Vb,Ve,Vk,Vm,Vo,Vp,Vq,Vr,Vs,Vt,Vu,Vv,Vw,Vx,Vy,Vz,V0,V3,V6,Wd,We,Hh,Hi,Hk,Hl,Ho,Hp,Hq,Hr,Hs,Ht,Hu,Hv,Hw,H1,H4,H5,H6,Ne,Ni,Nk,Nl,Nm,No,Nu,Nw,Nx,N0,Be,Bh,x5,a5,List.append_nil])))
    · have hro := hho h0
      rw [hro] at hRx
      have hnx := hnext x (due) (a) (P) hi hP ha
      generalize sC x = scx at *
      generalize sC s = scs at *
      (sym => simp [Qa,Qc,Qd,Qe,Qf,Qg,Qi,Qj,Qm,Qn,Qo,Qr,Qt,Qu,Qv,Q4,Q5,Xa,Xd,Xp,Xs,Xw,Xx,Xy,X5,X8,X9,Ya,Yc,Yg,Yh,Yr,Ys,Yt,Yu,Yv,Yy,Y9,Za,Zb,Zc,Zd,Ze,Zg,Zh,Zk,Zl,Zm,Zn,Zo,Zt,Zv,Zw,Zx,Zy,Zz,Z0,Z1,Z3,Ja,Jb,Jj,Jk,Jm,Jn,Jo,Jq,Jr,Js,Jv,J1,J2,Ue,Uf,Ug,Ul,Us,Ut,Ux,U0,U4,U5,U6,U7,Vb,Ve,Vk,Vm,Vo,Vp,Vq,Vr,Vs,Vt,Vu,Vv,Vw,Vx,Vy,Vz,V0,V3,V6,Wd,We,Hh,Hi,Hk,Hl,Ho,Hp,Hq,Hr,Hs,Ht,Hu,Hv,Hw,H1,H4,H5,H6,Ne,Ni,Nk,Nl,Nm,No,Nu,Nw,Nx,N0,Be,Bh,q8R0.eq_1,q8R1.eq_1,q8R2.eq_1,q8R3.eq_1,q8R4.eq_1,q8R5.eq_1,q8R6.eq_1,q8R7.eq_1,q8R8.eq_1,q8R10.eq_1,q8R11.eq_1,q8R12.eq_1,q8R13.eq_1,q8R14.eq_1,q8R15.eq_1,q8R16.eq_1,q8R17.eq_1,q8R18.eq_1,q8R19.eq_1,q8R20.eq_1,q8R21.eq_1,q8R23.eq_1,q8R24.eq_1,q8R22.eq_1,q8R25.eq_1,q8R26.eq_1,q8R27.eq_1,q8R28.eq_1,q8R29.eq_1,q8R30.eq_1,q8R31.eq_1,q8R32.eq_1,q8R33.eq_1,q8R34.eq_1,q8R35.eq_1,q8R36.eq_1,q8R38.eq_1,q8R39.eq_1,q8R37.eq_1,q8R40.eq_1,q8R41.eq_1,q8R42.eq_1,q8R43.eq_1,q8R44.eq_1,q8R45.eq_1,q8R46.eq_1,q8R47.eq_1,q8R9.eq_1,q8R48.eq_1,c_law30_SessionRights.eq_1,c_law30_SessionRights_L0.eq_1,hil,hg,hln,hw,hbl,g1,g2,g3,a1,a2,a3,a4,a5,List.append_nil,hJ,x1,x2,x3,x4,x5,x6,x7,hMx,hRx,hLx,hql,h0]; tactic => (
        refine hnx _ ?_
        (sym => simp [Qa,Qc,Qd,Qe,Qf,Qg,Qi,Qj,Qm,Qn,Qo,Qr,Qt,Qu,Qv,Q4,Q5,Xa,Xd,Xp,Xs,Xw,Xx,Xy,X5,X8,X9,Ya,Yc,Yg,Yh,Yr,Ys,Yt,Yu,Yv,Yy,Y9,Za,Zb,Zc,Zd,Ze,Zg,Zh,Zk,Zl,Zm,Zn,Zo,Zt,Zv,Zw,Zx,Zy,Zz,Z0,Z1,Z3,Ja,Jb,Jj,Jk,Jm,Jn,Jo,Jq,Jr,Js,Jv,J1,J2,Ue,Uf,Ug,Ul,Us,Ut,Ux,U0,U4,U5,U6,U7,Vb,Ve,Vk,Vm,Vo,Vp,Vq,Vr,Vs,Vt,Vu,Vv,Vw,Vx,Vy,Vz,V0,V3,V6,Wd,We,Hh,Hi,Hk,Hl,Ho,Hp,Hq,Hr,Hs,Ht,Hu,Hv,Hw,H1,H4,H5,H6,Ne,Ni,Nk,Nl,Nm,No,Nu,Nw,Nx,N0,Be,Bh,x5,a5,List.append_nil])))
  · rw [e2] at hJ
    simp only at hJ
    have z1 := sC_len zS
    have z2 := sC_st zS
    have z3 := sC_all zS
    have z5 : (sC zS).drop 33 = [] := rfl
    have z6 : (sC zS)[0]? = some (.data false 2 [] false) := rfl
    generalize sC zS = scz at *
    have hnx := hnext s (due) (a) (P) h hP ha
    generalize sC s = scs at *
    (sym => simp [Qa,Qc,Qd,Qe,Qf,Qg,Qi,Qj,Qm,Qn,Qo,Qr,Qt,Qu,Qv,Q4,Q5,Xa,Xd,Xp,Xs,Xw,Xx,Xy,X5,X8,X9,Ya,Yc,Yg,Yh,Yr,Ys,Yt,Yu,Yv,Yy,Y9,Za,Zb,Zc,Zd,Ze,Zg,Zh,Zk,Zl,Zm,Zn,Zo,Zt,Zv,Zw,Zx,Zy,Zz,Z0,Z1,Z3,Ja,Jb,Jj,Jk,Jm,Jn,Jo,Jq,Jr,Js,Jv,J1,J2,Ue,Uf,Ug,Ul,Us,Ut,Ux,U0,U4,U5,U6,U7,Vb,Ve,Vk,Vm,Vo,Vp,Vq,Vr,Vs,Vt,Vu,Vv,Vw,Vx,Vy,Vz,V0,V3,V6,Wd,We,Hh,Hi,Hk,Hl,Ho,Hp,Hq,Hr,Hs,Ht,Hu,Hv,Hw,H1,H4,H5,H6,Ne,Ni,Nk,Nl,Nm,No,Nu,Nw,Nx,N0,Be,Bh,q8R0.eq_1,q8R1.eq_1,q8R2.eq_1,q8R3.eq_1,q8R4.eq_1,q8R5.eq_1,q8R6.eq_1,q8R7.eq_1,q8R8.eq_1,q8R10.eq_1,q8R11.eq_1,q8R12.eq_1,q8R13.eq_1,q8R14.eq_1,q8R15.eq_1,q8R16.eq_1,q8R17.eq_1,q8R18.eq_1,q8R19.eq_1,q8R20.eq_1,q8R21.eq_1,q8R23.eq_1,q8R24.eq_1,q8R22.eq_1,q8R25.eq_1,q8R26.eq_1,q8R27.eq_1,q8R28.eq_1,q8R29.eq_1,q8R30.eq_1,q8R31.eq_1,q8R32.eq_1,q8R33.eq_1,q8R34.eq_1,q8R35.eq_1,q8R36.eq_1,q8R38.eq_1,q8R39.eq_1,q8R37.eq_1,q8R40.eq_1,q8R41.eq_1,q8R42.eq_1,q8R43.eq_1,q8R44.eq_1,q8R45.eq_1,q8R46.eq_1,q8R47.eq_1,q8R9.eq_1,q8R48.eq_1,c_law30_SessionRights.eq_1,c_law30_SessionRights_L0.eq_1,hil,hg,hln,hw,hbl,g1,g2,g3,a1,a2,a3,a4,a5,List.append_nil,hJ,z1,z2,z3,z5,z6,he]; tactic => (
      refine hnx _ ?_
      (sym => simp [Qa,Qc,Qd,Qe,Qf,Qg,Qi,Qj,Qm,Qn,Qo,Qr,Qt,Qu,Qv,Q4,Q5,Xa,Xd,Xp,Xs,Xw,Xx,Xy,X5,X8,X9,Ya,Yc,Yg,Yh,Yr,Ys,Yt,Yu,Yv,Yy,Y9,Za,Zb,Zc,Zd,Ze,Zg,Zh,Zk,Zl,Zm,Zn,Zo,Zt,Zv,Zw,Zx,Zy,Zz,Z0,Z1,Z3,Ja,Jb,Jj,Jk,Jm,Jn,Jo,Jq,Jr,Js,Jv,J1,J2,Ue,Uf,Ug,Ul,Us,Ut,Ux,U0,U4,U5,U6,U7,Vb,Ve,Vk,Vm,Vo,Vp,Vq,Vr,Vs,Vt,Vu,Vv,Vw,Vx,Vy,Vz,V0,V3,V6,Wd,We,Hh,Hi,Hk,Hl,Ho,Hp,Hq,Hr,Hs,Ht,Hu,Hv,Hw,H1,H4,H5,H6,Ne,Ni,Nk,Nl,Nm,No,Nu,Nw,Nx,N0,Be,Bh,a5,List.append_nil])))
theorem ri_leave (l : List Rst) (f : Bool) (hl : l.length ≤ 150) (i : Nat) (hi : i < l.length) (kd n r dk dr dcc : Int) (dt : List Int) (df : Bool) (j : Nat) (hx : l[i] = (kd, (j : Int), n, r, dk, dt, dr, dcc, df)) (h1 : 1 ≤ j) (h8 : j ≤ 8) (ht : dt.length ≤ 16) (hnn : n ≤ 9223372036854775807) (s : Ses) (due : List Pc) (h : RInv s due) (a : Nat) (P : List (List AV)) (hP : P.drop a = pcs due) (ha : a ≤ P.length) (hk : kd = 1)
    (st : ASt) (hst : agc 0 [0, 3, 4, 5] st = some (riSt l f s due a P i)) (Q : Option (AEx × ASt) → Prop)
    (hnext : ∀ s' due' a' P', RInv s' due' → List.drop a' P' = pcs due' → a' ≤ List.length P' → ∀ st', agc 0 [0, 3, 4, 5] st' = some (riSt l f s' due' a' P' (i + 1)) → Q (aE G FT 0 lp_law30_SessionRights_0 st')) :
    Q (aE G FT 0 lp_law30_SessionRights_0 st) := by
  have oks := okS_may h.may
  have hdl := core_len h.due
  have hdn : due.length ≤ 1000 := by have := oks.2.2.1; omega
  have hPl := drop_len' hP ha
  have hil : (i : Int) < l.length := by omega
  have hg := rsts_at hi
  rw [hx] at hg
  simp only [rstC] at hg
  have hln := rsts_len l
  have hw := wrap_nat (n := i) (by omega)
  have hbl := byt_len dt
  have g1 : ¬ (j : Int) < 1 := by omega
  have g2 : ¬ (8 : Int) < j := by omega
  have g3 : ¬ (16 : Int) < dt.length := by omega
  have a1 := sC_len s
  have a2 := sC_st s
  have a3 := sC_all s
  have a4 := sC_v s
  have a5 : (sC s).drop 33 = [] := rfl
  unfold riSt at hst hnext
  rw [lp_law30_SessionRights_0] at hnext
  rw [lp_law30_SessionRights_0, y_loop, hst]
  subst hk
  have hJ := leave30_P G s oks j
  have hfl : (due.filter fun t => !decide (t.1 = (j : Int))).length ≤ due.length := List.length_filter_le _ _
  have k1 := fun B e => ri_loop1 G (rsts l) f (sC s) B [.int .i64 1, .int .i64 (j : Int), .int .i64 n, .int .i64 r, .int .i64 dk, .data false 1 (byt dt) df, .int .i64 dr, .int .i64 dcc] P a due hP ha hdn i e j rfl due.length 0 [] (by omega) rfl
  simp only [pcs_nil, List.length_nil, Int.natCast_zero] at k1
  rcases leave_inv h h1 h8 with ⟨x, e, hi⟩ | ⟨e, he, e2, hi⟩
  · rw [e] at hJ
    simp only at hJ
    have x1 := sC_len x
    have x2 := sC_st x
    have x3 := sC_all x
    have x4 := sC_v x
    have x5 : (sC x).drop 33 = [] := rfl
    have x6 := sC_1 x
    have x7 := sC_3 x
    have okx := okS_may hi.may
    have hMx := smay30_P G x okx
    rw [hi.may] at hMx
    have hRx := role30_P G x x.h okx.1
    have hLx := least30_P G x hi.may
    rw [hi.least] at hLx
    have hho := holds hi.may
    have hql : (pcs x.q).length = (due.filter fun t => !decide (t.1 = (j : Int))).length := by rw [pcs_len]; exact (core_len hi.due).symm
    by_cases h0 : x.h = 0
    · rw [h0] at hRx x6
      have hnx := hnext x (due.filter fun t => !decide (t.1 = (j : Int))) (0) (pcs (due.filter fun t => !decide (t.1 = (j : Int)))) hi rfl (Nat.zero_le _)
      have k1 := k1 (sC x) 0 ⟨[(0, .data false 8 (rsts l) f), (3, .ptr 0 0 0 0), (4, .own 1 0 a due.length due.length), (5, .int .i64 i), (6, .ptr 2 0 0 0), (7, .ptr 3 0 0 0), (8, .int .i64 0), (9, .own 4 0 0 0 0), (10, .int .i64 0)], [⟨33, 0, true, [sC s]⟩, ⟨3, 0, true, P⟩, ⟨8, 0, true, [[.int .i64 1, .int .i64 (j : Int), .int .i64 n, .int .i64 r, .int .i64 dk, .data false 1 (byt dt) df, .int .i64 dr, .int .i64 dcc]]⟩, ⟨33, 0, true, [sC x]⟩, ⟨3, 0, true, []⟩]⟩ (by (sym => simp [Qa,Qc,Qd,Qe,Qf,Qg,Qi,Qj,Qm,Qn,Qo,Qr,Qs,Qt,Qu,Qv,Q4,Q5,Xa,Xd,Xp,Xs,Xw,Xx,Xy,X5,X8,X9,Ya,Yc,Yg,Yh,Yr,Ys,Yt,Yu,Yv,Yy,Y9,Za,Zb,Zc,Zd,Ze,Zg,Zh,Zk,Zl,Zm,Zn,Zo,Zt,Zv,Zw,Zx,Zy,Zz,Z0,Z1,Z3,Ja,Jb,Jj,Jk,Jm,Jn,Jo,Jq,Jr,Js,Jv,J1,J2,Ue,Uf,Ug,Ul,Us,Ut,Ux,U0,U4,U5,U6,U7,Vb,Ve,Vk,Vm,Vo,Vp,Vq,Vr,Vs,Vt,Vu,Vv,Vw,Vx,Vy,Vz,V0,V3,V6,Wd,We,Hh,Hi,Hk,Hl,Ho,Hp,Hq,Hr,Hs,Ht,Hu,Hv,Hw,H1,H4,H5,H6,Ne,Ni,Nk,Nl,Nm,No,Nu,Nw,Nx,N0,Be,Bh]))
      generalize (due.filter fun t => !decide (t.1 = (j : Int))) = D at *
      generalize sC x = scx at *
      generalize sC s = scs at *
      (sym => simp [Qa,Qc,Qd,Qe,Qf,Qg,Qi,Qj,Qm,Qn,Qo,Qr,Qs,Qt,Qu,Qv,Q4,Q5,Xa,Xd,Xp,Xs,Xw,Xx,Xy,X5,X8,X9,Ya,Yc,Yg,Yh,Yr,Ys,Yt,Yu,Yv,Yy,Y9,Za,Zb,Zc,Zd,Ze,Zg,Zh,Zk,Zl,Zm,Zn,Zo,Zt,Zv,Zw,Zx,Zy,Zz,Z0,Z1,Z3,Ja,Jb,Jj,Jk,Jm,Jn,Jo,Jq,Jr,Js,Jv,J1,J2,Ue,Uf,Ug,Ul,Us,Ut,Ux,U0,U4,U5,U6,U7,Vb,Ve,Vk,Vm,Vo,Vp,Vq,Vr,Vs,Vt,Vu,Vv,Vw,Vx,Vy,Vz,V0,V3,V6,Wd,We,Hh,Hi,Hk,Hl,Ho,Hp,Hq,Hr,Hs,Ht,Hu,Hv,Hw,H1,H4,H5,H6,Ne,Ni,Nk,Nl,Nm,No,Nu,Nw,Nx,N0,Be,Bh,q8R0.eq_1,q8R1.eq_1,q8R2.eq_1,q8R3.eq_1,q8R4.eq_1,q8R5.eq_1,q8R6.eq_1,q8R7.eq_1,q8R8.eq_1,q8R10.eq_1,q8R11.eq_1,q8R12.eq_1,q8R13.eq_1,q8R14.eq_1,q8R15.eq_1,q8R16.eq_1,q8R17.eq_1,q8R18.eq_1,q8R19.eq_1,q8R20.eq_1,q8R21.eq_1,q8R23.eq_1,q8R24.eq_1,q8R22.eq_1,q8R25.eq_1,q8R26.eq_1,q8R27.eq_1,q8R28.eq_1,q8R29.eq_1,q8R30.eq_1,q8R31.eq_1,q8R32.eq_1,q8R33.eq_1,q8R34.eq_1,q8R35.eq_1,q8R36.eq_1,q8R38.eq_1,q8R39.eq_1,q8R37.eq_1,q8R40.eq_1,q8R41.eq_1,q8R42.eq_1,q8R43.eq_1,q8R44.eq_1,q8R45.eq_1,q8R46.eq_1,q8R47.eq_1,q8R9.eq_1,q8R48.eq_1,c_law30_SessionRights.eq_1,c_law30_SessionRights_L0.eq_1,hil,hg,hln,hw,hbl,g1,g2,g3,a1,a2,a3,a4,a5,List.append_nil,hJ,k1,x1,x2,x3,x4,x5,x6,x7,hMx,hRx,hLx,hql,h0]; tactic => (
        refine hnx _ ?_
        (sym => simp [Qa,Qc,Qd,Qe,Qf,Qg,Qi,Qj,Qm,Qn,Qo,Qr,Qs,Qt,Qu,Qv,Q4,Q5,Xa,Xd,Xp,Xs,Xw,Xx,Xy,X5,X8,X9,Ya,Yc,Yg,Yh,Yr,Ys,Yt,Yu,Yv,Yy,Y9,Za,Zb,Zc,Zd,Ze,Zg,Zh,Zk,Zl,Zm,Zn,Zo,Zt,Zv,Zw,Zx,Zy,Zz,Z0,Z1,Z3,Ja,Jb,Jj,Jk,Jm,Jn,Jo,Jq,Jr,Js,Jv,J1,J2,Ue,Uf,Ug,Ul,Us,Ut,Ux,U0,U4,U5,U6,U7,Vb,Ve,Vk,Vm,Vo,Vp,Vq,Vr,Vs,Vt,Vu,Vv,Vw,Vx,Vy,Vz,V0,V3,V6,Wd,We,Hh,Hi,Hk,Hl,Ho,Hp,Hq,Hr,Hs,Ht,Hu,Hv,Hw,H1,H4,H5,H6,Ne,Ni,Nk,Nl,Nm,No,Nu,Nw,Nx,N0,Be,Bh,x5,a5,List.append_nil])))
    · have hro := hho h0
      rw [hro] at hRx
      have hnx := hnext x (due.filter fun t => !decide (t.1 = (j : Int))) (0) (pcs (due.filter fun t => !decide (t.1 = (j : Int)))) hi rfl (Nat.zero_le _)
      have k1 := k1 (sC x) 0 ⟨[(0, .data false 8 (rsts l) f), (3, .ptr 0 0 0 0), (4, .own 1 0 a due.length due.length), (5, .int .i64 i), (6, .ptr 2 0 0 0), (7, .ptr 3 0 0 0), (8, .int .i64 0), (9, .own 4 0 0 0 0), (10, .int .i64 0)], [⟨33, 0, true, [sC s]⟩, ⟨3, 0, true, P⟩, ⟨8, 0, true, [[.int .i64 1, .int .i64 (j : Int), .int .i64 n, .int .i64 r, .int .i64 dk, .data false 1 (byt dt) df, .int .i64 dr, .int .i64 dcc]]⟩, ⟨33, 0, true, [sC x]⟩, ⟨3, 0, true, []⟩]⟩ (by (sym => simp [Qa,Qc,Qd,Qe,Qf,Qg,Qi,Qj,Qm,Qn,Qo,Qr,Qs,Qt,Qu,Qv,Q4,Q5,Xa,Xd,Xp,Xs,Xw,Xx,Xy,X5,X8,X9,Ya,Yc,Yg,Yh,Yr,Ys,Yt,Yu,Yv,Yy,Y9,Za,Zb,Zc,Zd,Ze,Zg,Zh,Zk,Zl,Zm,Zn,Zo,Zt,Zv,Zw,Zx,Zy,Zz,Z0,Z1,Z3,Ja,Jb,Jj,Jk,Jm,Jn,Jo,Jq,Jr,Js,Jv,J1,J2,Ue,Uf,Ug,Ul,Us,Ut,Ux,U0,U4,U5,U6,U7,Vb,Ve,Vk,Vm,Vo,Vp,Vq,Vr,Vs,Vt,Vu,Vv,Vw,Vx,Vy,Vz,V0,V3,V6,Wd,We,Hh,Hi,Hk,Hl,Ho,Hp,Hq,Hr,Hs,Ht,Hu,Hv,Hw,H1,H4,H5,H6,Ne,Ni,Nk,Nl,Nm,No,Nu,Nw,Nx,N0,Be,Bh]))
      generalize (due.filter fun t => !decide (t.1 = (j : Int))) = D at *
      generalize sC x = scx at *
      generalize sC s = scs at *
      (sym => simp [Qa,Qc,Qd,Qe,Qf,Qg,Qi,Qj,Qm,Qn,Qo,Qr,Qs,Qt,Qu,Qv,Q4,Q5,Xa,Xd,Xp,Xs,Xw,Xx,Xy,X5,X8,X9,Ya,Yc,Yg,Yh,Yr,Ys,Yt,Yu,Yv,Yy,Y9,Za,Zb,Zc,Zd,Ze,Zg,Zh,Zk,Zl,Zm,Zn,Zo,Zt,Zv,Zw,Zx,Zy,Zz,Z0,Z1,Z3,Ja,Jb,Jj,Jk,Jm,Jn,Jo,Jq,Jr,Js,Jv,J1,J2,Ue,Uf,Ug,Ul,Us,Ut,Ux,U0,U4,U5,U6,U7,Vb,Ve,Vk,Vm,Vo,Vp,Vq,Vr,Vs,Vt,Vu,Vv,Vw,Vx,Vy,Vz,V0,V3,V6,Wd,We,Hh,Hi,Hk,Hl,Ho,Hp,Hq,Hr,Hs,Ht,Hu,Hv,Hw,H1,H4,H5,H6,Ne,Ni,Nk,Nl,Nm,No,Nu,Nw,Nx,N0,Be,Bh,q8R0.eq_1,q8R1.eq_1,q8R2.eq_1,q8R3.eq_1,q8R4.eq_1,q8R5.eq_1,q8R6.eq_1,q8R7.eq_1,q8R8.eq_1,q8R10.eq_1,q8R11.eq_1,q8R12.eq_1,q8R13.eq_1,q8R14.eq_1,q8R15.eq_1,q8R16.eq_1,q8R17.eq_1,q8R18.eq_1,q8R19.eq_1,q8R20.eq_1,q8R21.eq_1,q8R23.eq_1,q8R24.eq_1,q8R22.eq_1,q8R25.eq_1,q8R26.eq_1,q8R27.eq_1,q8R28.eq_1,q8R29.eq_1,q8R30.eq_1,q8R31.eq_1,q8R32.eq_1,q8R33.eq_1,q8R34.eq_1,q8R35.eq_1,q8R36.eq_1,q8R38.eq_1,q8R39.eq_1,q8R37.eq_1,q8R40.eq_1,q8R41.eq_1,q8R42.eq_1,q8R43.eq_1,q8R44.eq_1,q8R45.eq_1,q8R46.eq_1,q8R47.eq_1,q8R9.eq_1,q8R48.eq_1,c_law30_SessionRights.eq_1,c_law30_SessionRights_L0.eq_1,hil,hg,hln,hw,hbl,g1,g2,g3,a1,a2,a3,a4,a5,List.append_nil,hJ,k1,x1,x2,x3,x4,x5,x6,x7,hMx,hRx,hLx,hql,h0]; tactic => (
        refine hnx _ ?_
        (sym => simp [Qa,Qc,Qd,Qe,Qf,Qg,Qi,Qj,Qm,Qn,Qo,Qr,Qs,Qt,Qu,Qv,Q4,Q5,Xa,Xd,Xp,Xs,Xw,Xx,Xy,X5,X8,X9,Ya,Yc,Yg,Yh,Yr,Ys,Yt,Yu,Yv,Yy,Y9,Za,Zb,Zc,Zd,Ze,Zg,Zh,Zk,Zl,Zm,Zn,Zo,Zt,Zv,Zw,Zx,Zy,Zz,Z0,Z1,Z3,Ja,Jb,Jj,Jk,Jm,Jn,Jo,Jq,Jr,Js,Jv,J1,J2,Ue,Uf,Ug,Ul,Us,Ut,Ux,U0,U4,U5,U6,U7,Vb,Ve,Vk,Vm,Vo,Vp,Vq,Vr,Vs,Vt,Vu,Vv,Vw,Vx,Vy,Vz,V0,V3,V6,Wd,We,Hh,Hi,Hk,Hl,Ho,Hp,Hq,Hr,Hs,Ht,Hu,Hv,Hw,H1,H4,H5,H6,Ne,Ni,Nk,Nl,Nm,No,Nu,Nw,Nx,N0,Be,Bh,x5,a5,List.append_nil])))
  · rw [e2] at hJ
    simp only at hJ
    have k1 := k1 (sC zS) e ⟨[(0, .data false 8 (rsts l) f), (3, .ptr 0 0 0 0), (4, .own 1 0 a due.length due.length), (5, .int .i64 i), (6, .ptr 2 0 0 0), (7, .ptr 3 0 0 0), (8, .int .i64 e), (9, .own 4 0 0 0 0), (10, .int .i64 0)], [⟨33, 0, true, [sC s]⟩, ⟨3, 0, true, P⟩, ⟨8, 0, true, [[.int .i64 1, .int .i64 (j : Int), .int .i64 n, .int .i64 r, .int .i64 dk, .data false 1 (byt dt) df, .int .i64 dr, .int .i64 dcc]]⟩, ⟨33, 0, true, [sC zS]⟩, ⟨3, 0, true, []⟩]⟩ (by (sym => simp [Qa,Qc,Qd,Qe,Qf,Qg,Qi,Qj,Qm,Qn,Qo,Qr,Qs,Qt,Qu,Qv,Q4,Q5,Xa,Xd,Xp,Xs,Xw,Xx,Xy,X5,X8,X9,Ya,Yc,Yg,Yh,Yr,Ys,Yt,Yu,Yv,Yy,Y9,Za,Zb,Zc,Zd,Ze,Zg,Zh,Zk,Zl,Zm,Zn,Zo,Zt,Zv,Zw,Zx,Zy,Zz,Z0,Z1,Z3,Ja,Jb,Jj,Jk,Jm,Jn,Jo,Jq,Jr,Js,Jv,J1,J2,Ue,Uf,Ug,Ul,Us,Ut,Ux,U0,U4,U5,U6,U7,Vb,Ve,Vk,Vm,Vo,Vp,Vq,Vr,Vs,Vt,Vu,Vv,Vw,Vx,Vy,Vz,V0,V3,V6,Wd,We,Hh,Hi,Hk,Hl,Ho,Hp,Hq,Hr,Hs,Ht,Hu,Hv,Hw,H1,H4,H5,H6,Ne,Ni,Nk,Nl,Nm,No,Nu,Nw,Nx,N0,Be,Bh]))
    have z1 := sC_len zS
    have z2 := sC_st zS
    have z3 := sC_all zS
    have z5 : (sC zS).drop 33 = [] := rfl
    have z6 : (sC zS)[0]? = some (.data false 2 [] false) := rfl
    generalize sC zS = scz at *
    have hnx := hnext s (due.filter fun t => !decide (t.1 = (j : Int))) (0) (pcs (due.filter fun t => !decide (t.1 = (j : Int)))) hi rfl (Nat.zero_le _)
    generalize (due.filter fun t => !decide (t.1 = (j : Int))) = D at *
    generalize sC s = scs at *
    (sym => simp [Qa,Qc,Qd,Qe,Qf,Qg,Qi,Qj,Qm,Qn,Qo,Qr,Qs,Qt,Qu,Qv,Q4,Q5,Xa,Xd,Xp,Xs,Xw,Xx,Xy,X5,X8,X9,Ya,Yc,Yg,Yh,Yr,Ys,Yt,Yu,Yv,Yy,Y9,Za,Zb,Zc,Zd,Ze,Zg,Zh,Zk,Zl,Zm,Zn,Zo,Zt,Zv,Zw,Zx,Zy,Zz,Z0,Z1,Z3,Ja,Jb,Jj,Jk,Jm,Jn,Jo,Jq,Jr,Js,Jv,J1,J2,Ue,Uf,Ug,Ul,Us,Ut,Ux,U0,U4,U5,U6,U7,Vb,Ve,Vk,Vm,Vo,Vp,Vq,Vr,Vs,Vt,Vu,Vv,Vw,Vx,Vy,Vz,V0,V3,V6,Wd,We,Hh,Hi,Hk,Hl,Ho,Hp,Hq,Hr,Hs,Ht,Hu,Hv,Hw,H1,H4,H5,H6,Ne,Ni,Nk,Nl,Nm,No,Nu,Nw,Nx,N0,Be,Bh,q8R0.eq_1,q8R1.eq_1,q8R2.eq_1,q8R3.eq_1,q8R4.eq_1,q8R5.eq_1,q8R6.eq_1,q8R7.eq_1,q8R8.eq_1,q8R10.eq_1,q8R11.eq_1,q8R12.eq_1,q8R13.eq_1,q8R14.eq_1,q8R15.eq_1,q8R16.eq_1,q8R17.eq_1,q8R18.eq_1,q8R19.eq_1,q8R20.eq_1,q8R21.eq_1,q8R23.eq_1,q8R24.eq_1,q8R22.eq_1,q8R25.eq_1,q8R26.eq_1,q8R27.eq_1,q8R28.eq_1,q8R29.eq_1,q8R30.eq_1,q8R31.eq_1,q8R32.eq_1,q8R33.eq_1,q8R34.eq_1,q8R35.eq_1,q8R36.eq_1,q8R38.eq_1,q8R39.eq_1,q8R37.eq_1,q8R40.eq_1,q8R41.eq_1,q8R42.eq_1,q8R43.eq_1,q8R44.eq_1,q8R45.eq_1,q8R46.eq_1,q8R47.eq_1,q8R9.eq_1,q8R48.eq_1,c_law30_SessionRights.eq_1,c_law30_SessionRights_L0.eq_1,hil,hg,hln,hw,hbl,g1,g2,g3,a1,a2,a3,a4,a5,List.append_nil,hJ,k1,z1,z2,z3,z5,z6,he]; tactic => (
      refine hnx _ ?_
      (sym => simp [Qa,Qc,Qd,Qe,Qf,Qg,Qi,Qj,Qm,Qn,Qo,Qr,Qs,Qt,Qu,Qv,Q4,Q5,Xa,Xd,Xp,Xs,Xw,Xx,Xy,X5,X8,X9,Ya,Yc,Yg,Yh,Yr,Ys,Yt,Yu,Yv,Yy,Y9,Za,Zb,Zc,Zd,Ze,Zg,Zh,Zk,Zl,Zm,Zn,Zo,Zt,Zv,Zw,Zx,Zy,Zz,Z0,Z1,Z3,Ja,Jb,Jj,Jk,Jm,Jn,Jo,Jq,Jr,Js,Jv,J1,J2,Ue,Uf,Ug,Ul,Us,Ut,Ux,U0,U4,U5,U6,U7,Vb,Ve,Vk,Vm,Vo,Vp,Vq,Vr,Vs,Vt,Vu,Vv,Vw,Vx,Vy,Vz,V0,V3,V6,Wd,We,Hh,Hi,Hk,Hl,Ho,Hp,Hq,Hr,Hs,Ht,Hu,Hv,Hw,H1,H4,H5,H6,Ne,Ni,Nk,Nl,Nm,No,Nu,Nw,Nx,N0,Be,Bh,a5,List.append_nil])))
theorem ri_take (l : List Rst) (f : Bool) (hl : l.length ≤ 150) (i : Nat) (hi : i < l.length) (kd n r dk dr dcc : Int) (dt : List Int) (df : Bool) (j : Nat) (hx : l[i] = (kd, (j : Int), n, r, dk, dt, dr, dcc, df)) (h1 : 1 ≤ j) (h8 : j ≤ 8) (ht : dt.length ≤ 16) (hnn : n ≤ 9223372036854775807) (s : Ses) (due : List Pc) (h : RInv s due) (a : Nat) (P : List (List AV)) (hP : P.drop a = pcs due) (ha : a ≤ P.length) (hk : kd = 3)
    (st : ASt) (hst : agc 0 [0, 3, 4, 5] st = some (riSt l f s due a P i)) (Q : Option (AEx × ASt) → Prop)
    (hnext : ∀ s' due' a' P', RInv s' due' → List.drop a' P' = pcs due' → a' ≤ List.length P' → ∀ st', agc 0 [0, 3, 4, 5] st' = some (riSt l f s' due' a' P' (i + 1)) → Q (aE G FT 0 lp_law30_SessionRights_0 st')) :
    Q (aE G FT 0 lp_law30_SessionRights_0 st) := by
  have oks := okS_may h.may
  have hdl := core_len h.due
  have hdn : due.length ≤ 1000 := by have := oks.2.2.1; omega
  have hPl := drop_len' hP ha
  have hil : (i : Int) < l.length := by omega
  have hg := rsts_at hi
  rw [hx] at hg
  simp only [rstC] at hg
  have hln := rsts_len l
  have hw := wrap_nat (n := i) (by omega)
  have hbl := byt_len dt
  have g1 : ¬ (j : Int) < 1 := by omega
  have g2 : ¬ (8 : Int) < j := by omega
  have g3 : ¬ (16 : Int) < dt.length := by omega
  have a1 := sC_len s
  have a2 := sC_st s
  have a3 := sC_all s
  have a4 := sC_v s
  have a5 : (sC s).drop 33 = [] := rfl
  unfold riSt at hst hnext
  rw [lp_law30_SessionRights_0] at hnext
  rw [lp_law30_SessionRights_0, y_loop, hst]
  subst hk
  have hT := take30_P G s oks j (s.k j + 1) (dk, dt, dr, dcc, df) (show dt.length ≤ 1000 by omega)
  simp only [dC] at hT
  have ka := sC_kat s (show j < 9 by omega)
  have s1 := sC_1 s
  have hr := cnt_range h.may j (by omega)
  have hw2 : IntKind.i64.wrap (s.k j + 1) = s.k j + 1 := wrap_in _ (by omega) (by omega)
  have hj9 : (j : Int) < 9 := by omega
  have hq4 : 24 + j < 33 := by omega
  have hsz : sizeQ due ≤ 64 := by rw [core_size h.due]; exact ((may0_iff s.q).1 (ses_parts h.may).2.2.1).2
  have tkd : List.take due.length (List.drop a P) = pcs due := by rw [hP]; exact List.take_of_length_le (by rw [pcs_len]; exact Nat.le_refl _)
  have hB := fun b f => bytes30_P G due b f hdn (by omega)
  have hle : a + due.length ≤ P.length := by omega
  have hwb : IntKind.i64.wrap ((sizeQ due : Int) + dt.length) = ((sizeQ due + dt.length : Nat) : Int) := by rw [wrap_in _ (by omega) (by omega)]; omega
  by_cases he : (takeS s j (s.k j + 1) (dk, dt, dr, dcc, df)).2 = 0
  · have hi := take_inv h j (dk, dt, dr, dcc, df) he
    rw [he] at hT
    unfold dueT at hi
    simp only at hi
    generalize (takeS s j (s.k j + 1) (dk, dt, dr, dcc, df)).1 = x at *
    by_cases k1 : dk = 1
    · subst k1
      by_cases hh : s.h = (j : Int)
      · by_cases hz : sizeQ due + dt.length ≤ 64
        · rw [if_pos ⟨rfl, hh, hz⟩] at hi
          have hz' : ((sizeQ due + dt.length : Nat) : Int) ≤ 64 := by omega
          have b1 : (due.length + 1) * 40 ≤ 140737488355328 := by omega
          have n1 : due.length + 1 ≤ due.length ↔ False := by simp
          have e2 : pcs (due ++ [((j : Int), s.k j + 1, dt, df)]) = pcs due ++ [[.int .i64 j, .int .i64 (s.k j + 1), .data false 1 (byt dt) df]] := by rw [pcs_append]; rfl
          have e3 : (due ++ [((j : Int), s.k j + 1, dt, df)]).length = due.length + 1 := by simp
          have ldp : (pcs due).length = due.length := pcs_len due
          have x1 := sC_len x
          have x2 := sC_st x
          have x3 := sC_all x
          have x4 := sC_v x
          have x5 : (sC x).drop 33 = [] := rfl
          have x6 := sC_1 x
          have x7 := sC_3 x
          have okx := okS_may hi.may
          have hMx := smay30_P G x okx
          rw [hi.may] at hMx
          have hRx := role30_P G x x.h okx.1
          have hLx := least30_P G x hi.may
          rw [hi.least] at hLx
          have hho := holds hi.may
          have hql : (pcs x.q).length = (due ++ [((j : Int), s.k j + 1, dt, df)]).length := by rw [pcs_len]; exact (core_len hi.due).symm
          rw [e3] at hql
          by_cases h0 : x.h = 0
          · rw [h0] at hRx x6
            have hnx := hnext x (due ++ [((j : Int), s.k j + 1, dt, df)]) (0) (pcs (due ++ [((j : Int), s.k j + 1, dt, df)])) hi rfl (Nat.zero_le _)
            rw [e2, e3] at hnx
            generalize sC x = scx at *
            generalize sC s = scs at *
            (sym => simp [Qa,Qc,Qd,Qe,Qf,Qg,Qi,Qj,Qm,Qn,Qo,Qr,Qt,Qu,Qv,Qx,Qy,Qz,Q0,Q1,Q2,Q4,Q5,Xa,Xd,Xp,Xs,Xt,Xw,Xx,Xy,X0,X5,X8,X9,Ya,Yb,Yc,Yg,Yh,Yj,Yk,Yn,Yr,Ys,Yt,Yu,Yv,Yy,Yz,Y2,Y9,Za,Zb,Zc,Zd,Ze,Zg,Zh,Zk,Zl,Zm,Zn,Zo,Zt,Zv,Zw,Zx,Zy,Zz,Z0,Z1,Z3,Ja,Jb,Jj,Jk,Jm,Jn,Jo,Jq,Jr,Js,Jv,J1,J2,Kv,Kx,K8,K9,Ua,Ub,Uc,Ud,Ue,Uf,Ug,Ul,Us,Ut,Ux,U0,U4,U5,U6,U7,Vb,Ve,Vk,Vm,Vo,Vp,Vq,Vr,Vs,Vt,Vu,Vv,Vw,Vx,Vy,Vz,V0,V1,V3,V6,V9,Wd,We,Hh,Hi,Hk,Hl,Ho,Hp,Hq,Hr,Hs,Ht,Hu,Hv,Hw,H1,H2,H3,H4,H5,H6,Nc,Ne,Nh,Ni,Nk,Nl,Nm,No,Nu,Nw,Nx,Nz,N0,N2,Be,Bg,Bh,q8R0.eq_1,q8R1.eq_1,q8R2.eq_1,q8R3.eq_1,q8R4.eq_1,q8R5.eq_1,q8R6.eq_1,q8R7.eq_1,q8R8.eq_1,q8R10.eq_1,q8R11.eq_1,q8R12.eq_1,q8R13.eq_1,q8R14.eq_1,q8R15.eq_1,q8R16.eq_1,q8R17.eq_1,q8R18.eq_1,q8R19.eq_1,q8R20.eq_1,q8R21.eq_1,q8R23.eq_1,q8R24.eq_1,q8R22.eq_1,q8R25.eq_1,q8R26.eq_1,q8R27.eq_1,q8R28.eq_1,q8R29.eq_1,q8R30.eq_1,q8R31.eq_1,q8R32.eq_1,q8R33.eq_1,q8R34.eq_1,q8R35.eq_1,q8R36.eq_1,q8R38.eq_1,q8R39.eq_1,q8R37.eq_1,q8R40.eq_1,q8R41.eq_1,q8R42.eq_1,q8R43.eq_1,q8R44.eq_1,q8R45.eq_1,q8R46.eq_1,q8R47.eq_1,q8R9.eq_1,q8R48.eq_1,c_law30_SessionRights.eq_1,c_law30_SessionRights_L0.eq_1,hil,hg,hln,hw,hbl,g1,g2,g3,a1,a2,a3,a4,a5,List.append_nil,hT,ka,s1,hw2,hj9,hq4,hB,hwb,tkd,hle,hh,hz',b1,n1,x1,x2,x3,x4,x5,x6,x7,hMx,hRx,hLx,hql,h0]; tactic => (
              refine hnx _ ?_
              (sym => simp [Qa,Qc,Qd,Qe,Qf,Qg,Qi,Qj,Qm,Qn,Qo,Qr,Qt,Qu,Qv,Qx,Qy,Qz,Q0,Q1,Q2,Q4,Q5,Xa,Xd,Xp,Xs,Xt,Xw,Xx,Xy,X0,X5,X8,X9,Ya,Yb,Yc,Yg,Yh,Yj,Yk,Yn,Yr,Ys,Yt,Yu,Yv,Yy,Yz,Y2,Y9,Za,Zb,Zc,Zd,Ze,Zg,Zh,Zk,Zl,Zm,Zn,Zo,Zt,Zv,Zw,Zx,Zy,Zz,Z0,Z1,Z3,Ja,Jb,Jj,Jk,Jm,Jn,Jo,Jq,Jr,Js,Jv,J1,J2,Kv,Kx,K8,K9,Ua,Ub,Uc,Ud,Ue,Uf,Ug,Ul,Us,Ut,Ux,U0,U4,U5,U6,U7,Vb,Ve,Vk,Vm,Vo,Vp,Vq,Vr,Vs,Vt,Vu,Vv,Vw,Vx,Vy,Vz,V0,V1,V3,V6,V9,Wd,We,Hh,Hi,Hk,Hl,Ho,Hp,Hq,Hr,Hs,Ht,Hu,Hv,Hw,H1,H2,H3,H4,H5,H6,Nc,Ne,Nh,Ni,Nk,Nl,Nm,No,Nu,Nw,Nx,Nz,N0,N2,Be,Bg,Bh,x5,a5,List.append_nil,ldp])))
          · have hro := hho h0
            rw [hro] at hRx
            have hnx := hnext x (due ++ [((j : Int), s.k j + 1, dt, df)]) (0) (pcs (due ++ [((j : Int), s.k j + 1, dt, df)])) hi rfl (Nat.zero_le _)
            rw [e2, e3] at hnx
            generalize sC x = scx at *
            generalize sC s = scs at *
            (sym => simp [Qa,Qc,Qd,Qe,Qf,Qg,Qi,Qj,Qm,Qn,Qo,Qr,Qt,Qu,Qv,Qx,Qy,Qz,Q0,Q1,Q2,Q4,Q5,Xa,Xd,Xp,Xs,Xt,Xw,Xx,Xy,X0,X5,X8,X9,Ya,Yb,Yc,Yg,Yh,Yj,Yk,Yn,Yr,Ys,Yt,Yu,Yv,Yy,Yz,Y2,Y9,Za,Zb,Zc,Zd,Ze,Zg,Zh,Zk,Zl,Zm,Zn,Zo,Zt,Zv,Zw,Zx,Zy,Zz,Z0,Z1,Z3,Ja,Jb,Jj,Jk,Jm,Jn,Jo,Jq,Jr,Js,Jv,J1,J2,Kv,Kx,K8,K9,Ua,Ub,Uc,Ud,Ue,Uf,Ug,Ul,Us,Ut,Ux,U0,U4,U5,U6,U7,Vb,Ve,Vk,Vm,Vo,Vp,Vq,Vr,Vs,Vt,Vu,Vv,Vw,Vx,Vy,Vz,V0,V1,V3,V6,V9,Wd,We,Hh,Hi,Hk,Hl,Ho,Hp,Hq,Hr,Hs,Ht,Hu,Hv,Hw,H1,H2,H3,H4,H5,H6,Nc,Ne,Nh,Ni,Nk,Nl,Nm,No,Nu,Nw,Nx,Nz,N0,N2,Be,Bg,Bh,q8R0.eq_1,q8R1.eq_1,q8R2.eq_1,q8R3.eq_1,q8R4.eq_1,q8R5.eq_1,q8R6.eq_1,q8R7.eq_1,q8R8.eq_1,q8R10.eq_1,q8R11.eq_1,q8R12.eq_1,q8R13.eq_1,q8R14.eq_1,q8R15.eq_1,q8R16.eq_1,q8R17.eq_1,q8R18.eq_1,q8R19.eq_1,q8R20.eq_1,q8R21.eq_1,q8R23.eq_1,q8R24.eq_1,q8R22.eq_1,q8R25.eq_1,q8R26.eq_1,q8R27.eq_1,q8R28.eq_1,q8R29.eq_1,q8R30.eq_1,q8R31.eq_1,q8R32.eq_1,q8R33.eq_1,q8R34.eq_1,q8R35.eq_1,q8R36.eq_1,q8R38.eq_1,q8R39.eq_1,q8R37.eq_1,q8R40.eq_1,q8R41.eq_1,q8R42.eq_1,q8R43.eq_1,q8R44.eq_1,q8R45.eq_1,q8R46.eq_1,q8R47.eq_1,q8R9.eq_1,q8R48.eq_1,c_law30_SessionRights.eq_1,c_law30_SessionRights_L0.eq_1,hil,hg,hln,hw,hbl,g1,g2,g3,a1,a2,a3,a4,a5,List.append_nil,hT,ka,s1,hw2,hj9,hq4,hB,hwb,tkd,hle,hh,hz',b1,n1,x1,x2,x3,x4,x5,x6,x7,hMx,hRx,hLx,hql,h0]; tactic => (
              refine hnx _ ?_
              (sym => simp [Qa,Qc,Qd,Qe,Qf,Qg,Qi,Qj,Qm,Qn,Qo,Qr,Qt,Qu,Qv,Qx,Qy,Qz,Q0,Q1,Q2,Q4,Q5,Xa,Xd,Xp,Xs,Xt,Xw,Xx,Xy,X0,X5,X8,X9,Ya,Yb,Yc,Yg,Yh,Yj,Yk,Yn,Yr,Ys,Yt,Yu,Yv,Yy,Yz,Y2,Y9,Za,Zb,Zc,Zd,Ze,Zg,Zh,Zk,Zl,Zm,Zn,Zo,Zt,Zv,Zw,Zx,Zy,Zz,Z0,Z1,Z3,Ja,Jb,Jj,Jk,Jm,Jn,Jo,Jq,Jr,Js,Jv,J1,J2,Kv,Kx,K8,K9,Ua,Ub,Uc,Ud,Ue,Uf,Ug,Ul,Us,Ut,Ux,U0,U4,U5,U6,U7,Vb,Ve,Vk,Vm,Vo,Vp,Vq,Vr,Vs,Vt,Vu,Vv,Vw,Vx,Vy,Vz,V0,V1,V3,V6,V9,Wd,We,Hh,Hi,Hk,Hl,Ho,Hp,Hq,Hr,Hs,Ht,Hu,Hv,Hw,H1,H2,H3,H4,H5,H6,Nc,Ne,Nh,Ni,Nk,Nl,Nm,No,Nu,Nw,Nx,Nz,N0,N2,Be,Bg,Bh,x5,a5,List.append_nil,ldp])))
        · rw [if_neg (fun h => hz h.2.2)] at hi
          have hz' : ¬ ((sizeQ due + dt.length : Nat) : Int) ≤ 64 := by omega
          have x1 := sC_len x
          have x2 := sC_st x
          have x3 := sC_all x
          have x4 := sC_v x
          have x5 : (sC x).drop 33 = [] := rfl
          have x6 := sC_1 x
          have x7 := sC_3 x
          have okx := okS_may hi.may
          have hMx := smay30_P G x okx
          rw [hi.may] at hMx
          have hRx := role30_P G x x.h okx.1
          have hLx := least30_P G x hi.may
          rw [hi.least] at hLx
          have hho := holds hi.may
          have hql : (pcs x.q).length = due.length := by rw [pcs_len]; exact (core_len hi.due).symm
          by_cases h0 : x.h = 0
          · rw [h0] at hRx x6
            have hnx := hnext x (due) (a) (P) hi hP ha
            generalize sC x = scx at *
            generalize sC s = scs at *
            (sym => simp [Qa,Qc,Qd,Qe,Qf,Qg,Qi,Qj,Qm,Qn,Qo,Qr,Qt,Qu,Qv,Qx,Qy,Qz,Q0,Q1,Q2,Q4,Q5,Xa,Xd,Xp,Xs,Xt,Xw,Xx,Xy,X0,X5,X8,X9,Ya,Yb,Yc,Yg,Yh,Yj,Yk,Yn,Yr,Ys,Yt,Yu,Yv,Yy,Yz,Y2,Y9,Za,Zb,Zc,Zd,Ze,Zg,Zh,Zk,Zl,Zm,Zn,Zo,Zt,Zv,Zw,Zx,Zy,Zz,Z0,Z1,Z3,Ja,Jb,Jj,Jk,Jm,Jn,Jo,Jq,Jr,Js,Jv,J1,J2,Kv,Kx,K8,K9,Ua,Ub,Uc,Ud,Ue,Uf,Ug,Ul,Us,Ut,Ux,U0,U4,U5,U6,U7,Vb,Ve,Vk,Vm,Vo,Vp,Vq,Vr,Vs,Vt,Vu,Vv,Vw,Vx,Vy,Vz,V0,V1,V3,V6,V9,Wd,We,Hh,Hi,Hk,Hl,Ho,Hp,Hq,Hr,Hs,Ht,Hu,Hv,Hw,H1,H2,H3,H4,H5,H6,Nc,Ne,Nh,Ni,Nk,Nl,Nm,No,Nu,Nw,Nx,Nz,N0,N2,Be,Bg,Bh,q8R0.eq_1,q8R1.eq_1,q8R2.eq_1,q8R3.eq_1,q8R4.eq_1,q8R5.eq_1,q8R6.eq_1,q8R7.eq_1,q8R8.eq_1,q8R10.eq_1,q8R11.eq_1,q8R12.eq_1,q8R13.eq_1,q8R14.eq_1,q8R15.eq_1,q8R16.eq_1,q8R17.eq_1,q8R18.eq_1,q8R19.eq_1,q8R20.eq_1,q8R21.eq_1,q8R23.eq_1,q8R24.eq_1,q8R22.eq_1,q8R25.eq_1,q8R26.eq_1,q8R27.eq_1,q8R28.eq_1,q8R29.eq_1,q8R30.eq_1,q8R31.eq_1,q8R32.eq_1,q8R33.eq_1,q8R34.eq_1,q8R35.eq_1,q8R36.eq_1,q8R38.eq_1,q8R39.eq_1,q8R37.eq_1,q8R40.eq_1,q8R41.eq_1,q8R42.eq_1,q8R43.eq_1,q8R44.eq_1,q8R45.eq_1,q8R46.eq_1,q8R47.eq_1,q8R9.eq_1,q8R48.eq_1,c_law30_SessionRights.eq_1,c_law30_SessionRights_L0.eq_1,hil,hg,hln,hw,hbl,g1,g2,g3,a1,a2,a3,a4,a5,List.append_nil,hT,ka,s1,hw2,hj9,hq4,hB,hwb,tkd,hle,hh,hz',x1,x2,x3,x4,x5,x6,x7,hMx,hRx,hLx,hql,h0]; tactic => (
              refine hnx _ ?_
              (sym => simp [Qa,Qc,Qd,Qe,Qf,Qg,Qi,Qj,Qm,Qn,Qo,Qr,Qt,Qu,Qv,Qx,Qy,Qz,Q0,Q1,Q2,Q4,Q5,Xa,Xd,Xp,Xs,Xt,Xw,Xx,Xy,X0,X5,X8,X9,Ya,Yb,Yc,Yg,Yh,Yj,Yk,Yn,Yr,Ys,Yt,Yu,Yv,Yy,Yz,Y2,Y9,Za,Zb,Zc,Zd,Ze,Zg,Zh,Zk,Zl,Zm,Zn,Zo,Zt,Zv,Zw,Zx,Zy,Zz,Z0,Z1,Z3,Ja,Jb,Jj,Jk,Jm,Jn,Jo,Jq,Jr,Js,Jv,J1,J2,Kv,Kx,K8,K9,Ua,Ub,Uc,Ud,Ue,Uf,Ug,Ul,Us,Ut,Ux,U0,U4,U5,U6,U7,Vb,Ve,Vk,Vm,Vo,Vp,Vq,Vr,Vs,Vt,Vu,Vv,Vw,Vx,Vy,Vz,V0,V1,V3,V6,V9,Wd,We,Hh,Hi,Hk,Hl,Ho,Hp,Hq,Hr,Hs,Ht,Hu,Hv,Hw,H1,H2,H3,H4,H5,H6,Nc,Ne,Nh,Ni,Nk,Nl,Nm,No,Nu,Nw,Nx,Nz,N0,N2,Be,Bg,Bh,x5,a5,List.append_nil])))
          · have hro := hho h0
            rw [hro] at hRx
            have hnx := hnext x (due) (a) (P) hi hP ha
            generalize sC x = scx at *
            generalize sC s = scs at *
            (sym => simp [Qa,Qc,Qd,Qe,Qf,Qg,Qi,Qj,Qm,Qn,Qo,Qr,Qt,Qu,Qv,Qx,Qy,Qz,Q0,Q1,Q2,Q4,Q5,Xa,Xd,Xp,Xs,Xt,Xw,Xx,Xy,X0,X5,X8,X9,Ya,Yb,Yc,Yg,Yh,Yj,Yk,Yn,Yr,Ys,Yt,Yu,Yv,Yy,Yz,Y2,Y9,Za,Zb,Zc,Zd,Ze,Zg,Zh,Zk,Zl,Zm,Zn,Zo,Zt,Zv,Zw,Zx,Zy,Zz,Z0,Z1,Z3,Ja,Jb,Jj,Jk,Jm,Jn,Jo,Jq,Jr,Js,Jv,J1,J2,Kv,Kx,K8,K9,Ua,Ub,Uc,Ud,Ue,Uf,Ug,Ul,Us,Ut,Ux,U0,U4,U5,U6,U7,Vb,Ve,Vk,Vm,Vo,Vp,Vq,Vr,Vs,Vt,Vu,Vv,Vw,Vx,Vy,Vz,V0,V1,V3,V6,V9,Wd,We,Hh,Hi,Hk,Hl,Ho,Hp,Hq,Hr,Hs,Ht,Hu,Hv,Hw,H1,H2,H3,H4,H5,H6,Nc,Ne,Nh,Ni,Nk,Nl,Nm,No,Nu,Nw,Nx,Nz,N0,N2,Be,Bg,Bh,q8R0.eq_1,q8R1.eq_1,q8R2.eq_1,q8R3.eq_1,q8R4.eq_1,q8R5.eq_1,q8R6.eq_1,q8R7.eq_1,q8R8.eq_1,q8R10.eq_1,q8R11.eq_1,q8R12.eq_1,q8R13.eq_1,q8R14.eq_1,q8R15.eq_1,q8R16.eq_1,q8R17.eq_1,q8R18.eq_1,q8R19.eq_1,q8R20.eq_1,q8R21.eq_1,q8R23.eq_1,q8R24.eq_1,q8R22.eq_1,q8R25.eq_1,q8R26.eq_1,q8R27.eq_1,q8R28.eq_1,q8R29.eq_1,q8R30.eq_1,q8R31.eq_1,q8R32.eq_1,q8R33.eq_1,q8R34.eq_1,q8R35.eq_1,q8R36.eq_1,q8R38.eq_1,q8R39.eq_1,q8R37.eq_1,q8R40.eq_1,q8R41.eq_1,q8R42.eq_1,q8R43.eq_1,q8R44.eq_1,q8R45.eq_1,q8R46.eq_1,q8R47.eq_1,q8R9.eq_1,q8R48.eq_1,c_law30_SessionRights.eq_1,c_law30_SessionRights_L0.eq_1,hil,hg,hln,hw,hbl,g1,g2,g3,a1,a2,a3,a4,a5,List.append_nil,hT,ka,s1,hw2,hj9,hq4,hB,hwb,tkd,hle,hh,hz',x1,x2,x3,x4,x5,x6,x7,hMx,hRx,hLx,hql,h0]; tactic => (
              refine hnx _ ?_
              (sym => simp [Qa,Qc,Qd,Qe,Qf,Qg,Qi,Qj,Qm,Qn,Qo,Qr,Qt,Qu,Qv,Qx,Qy,Qz,Q0,Q1,Q2,Q4,Q5,Xa,Xd,Xp,Xs,Xt,Xw,Xx,Xy,X0,X5,X8,X9,Ya,Yb,Yc,Yg,Yh,Yj,Yk,Yn,Yr,Ys,Yt,Yu,Yv,Yy,Yz,Y2,Y9,Za,Zb,Zc,Zd,Ze,Zg,Zh,Zk,Zl,Zm,Zn,Zo,Zt,Zv,Zw,Zx,Zy,Zz,Z0,Z1,Z3,Ja,Jb,Jj,Jk,Jm,Jn,Jo,Jq,Jr,Js,Jv,J1,J2,Kv,Kx,K8,K9,Ua,Ub,Uc,Ud,Ue,Uf,Ug,Ul,Us,Ut,Ux,U0,U4,U5,U6,U7,Vb,Ve,Vk,Vm,Vo,Vp,Vq,Vr,Vs,Vt,Vu,Vv,Vw,Vx,Vy,Vz,V0,V1,V3,V6,V9,Wd,We,Hh,Hi,Hk,Hl,Ho,Hp,Hq,Hr,Hs,Ht,Hu,Hv,Hw,H1,H2,H3,H4,H5,H6,Nc,Ne,Nh,Ni,Nk,Nl,Nm,No,Nu,Nw,Nx,Nz,N0,N2,Be,Bg,Bh,x5,a5,List.append_nil])))
      · rw [if_neg (fun h => hh h.2.1)] at hi
        have x1 := sC_len x
        have x2 := sC_st x
        have x3 := sC_all x
        have x4 := sC_v x
        have x5 : (sC x).drop 33 = [] := rfl
        have x6 := sC_1 x
        have x7 := sC_3 x
        have okx := okS_may hi.may
        have hMx := smay30_P G x okx
        rw [hi.may] at hMx
        have hRx := role30_P G x x.h okx.1
        have hLx := least30_P G x hi.may
        rw [hi.least] at hLx
        have hho := holds hi.may
        have hql : (pcs x.q).length = due.length := by rw [pcs_len]; exact (core_len hi.due).symm
        by_cases h0 : x.h = 0
        · rw [h0] at hRx x6
          have hnx := hnext x (due) (a) (P) hi hP ha
          generalize sC x = scx at *
          generalize sC s = scs at *
          (sym => simp [Qa,Qc,Qd,Qe,Qf,Qg,Qi,Qj,Qm,Qn,Qo,Qr,Qt,Qu,Qv,Qx,Qy,Qz,Q0,Q1,Q2,Q4,Q5,Xa,Xd,Xp,Xs,Xt,Xw,Xx,Xy,X0,X5,X8,X9,Ya,Yb,Yc,Yg,Yh,Yj,Yk,Yn,Yr,Ys,Yt,Yu,Yv,Yy,Yz,Y2,Y9,Za,Zb,Zc,Zd,Ze,Zg,Zh,Zk,Zl,Zm,Zn,Zo,Zt,Zv,Zw,Zx,Zy,Zz,Z0,Z1,Z3,Ja,Jb,Jj,Jk,Jm,Jn,Jo,Jq,Jr,Js,Jv,J1,J2,Kv,Kx,K8,K9,Ua,Ub,Uc,Ud,Ue,Uf,Ug,Ul,Us,Ut,Ux,U0,U4,U5,U6,U7,Vb,Ve,Vk,Vm,Vo,Vp,Vq,Vr,Vs,Vt,Vu,Vv,Vw,Vx,Vy,Vz,V0,V1,V3,V6,V9,Wd,We,Hh,Hi,Hk,Hl,Ho,Hp,Hq,Hr,Hs,Ht,Hu,Hv,Hw,H1,H2,H3,H4,H5,H6,Nc,Ne,Nh,Ni,Nk,Nl,Nm,No,Nu,Nw,Nx,Nz,N0,N2,Be,Bg,Bh,q8R0.eq_1,q8R1.eq_1,q8R2.eq_1,q8R3.eq_1,q8R4.eq_1,q8R5.eq_1,q8R6.eq_1,q8R7.eq_1,q8R8.eq_1,q8R10.eq_1,q8R11.eq_1,q8R12.eq_1,q8R13.eq_1,q8R14.eq_1,q8R15.eq_1,q8R16.eq_1,q8R17.eq_1,q8R18.eq_1,q8R19.eq_1,q8R20.eq_1,q8R21.eq_1,q8R23.eq_1,q8R24.eq_1,q8R22.eq_1,q8R25.eq_1,q8R26.eq_1,q8R27.eq_1,q8R28.eq_1,q8R29.eq_1,q8R30.eq_1,q8R31.eq_1,q8R32.eq_1,q8R33.eq_1,q8R34.eq_1,q8R35.eq_1,q8R36.eq_1,q8R38.eq_1,q8R39.eq_1,q8R37.eq_1,q8R40.eq_1,q8R41.eq_1,q8R42.eq_1,q8R43.eq_1,q8R44.eq_1,q8R45.eq_1,q8R46.eq_1,q8R47.eq_1,q8R9.eq_1,q8R48.eq_1,c_law30_SessionRights.eq_1,c_law30_SessionRights_L0.eq_1,hil,hg,hln,hw,hbl,g1,g2,g3,a1,a2,a3,a4,a5,List.append_nil,hT,ka,s1,hw2,hj9,hq4,hB,hwb,tkd,hle,hh,x1,x2,x3,x4,x5,x6,x7,hMx,hRx,hLx,hql,h0]; tactic => (
            refine hnx _ ?_
            (sym => simp [Qa,Qc,Qd,Qe,Qf,Qg,Qi,Qj,Qm,Qn,Qo,Qr,Qt,Qu,Qv,Qx,Qy,Qz,Q0,Q1,Q2,Q4,Q5,Xa,Xd,Xp,Xs,Xt,Xw,Xx,Xy,X0,X5,X8,X9,Ya,Yb,Yc,Yg,Yh,Yj,Yk,Yn,Yr,Ys,Yt,Yu,Yv,Yy,Yz,Y2,Y9,Za,Zb,Zc,Zd,Ze,Zg,Zh,Zk,Zl,Zm,Zn,Zo,Zt,Zv,Zw,Zx,Zy,Zz,Z0,Z1,Z3,Ja,Jb,Jj,Jk,Jm,Jn,Jo,Jq,Jr,Js,Jv,J1,J2,Kv,Kx,K8,K9,Ua,Ub,Uc,Ud,Ue,Uf,Ug,Ul,Us,Ut,Ux,U0,U4,U5,U6,U7,Vb,Ve,Vk,Vm,Vo,Vp,Vq,Vr,Vs,Vt,Vu,Vv,Vw,Vx,Vy,Vz,V0,V1,V3,V6,V9,Wd,We,Hh,Hi,Hk,Hl,Ho,Hp,Hq,Hr,Hs,Ht,Hu,Hv,Hw,H1,H2,H3,H4,H5,H6,Nc,Ne,Nh,Ni,Nk,Nl,Nm,No,Nu,Nw,Nx,Nz,N0,N2,Be,Bg,Bh,x5,a5,List.append_nil])))
        · have hro := hho h0
          rw [hro] at hRx
          have hnx := hnext x (due) (a) (P) hi hP ha
          generalize sC x = scx at *
          generalize sC s = scs at *
          (sym => simp [Qa,Qc,Qd,Qe,Qf,Qg,Qi,Qj,Qm,Qn,Qo,Qr,Qt,Qu,Qv,Qx,Qy,Qz,Q0,Q1,Q2,Q4,Q5,Xa,Xd,Xp,Xs,Xt,Xw,Xx,Xy,X0,X5,X8,X9,Ya,Yb,Yc,Yg,Yh,Yj,Yk,Yn,Yr,Ys,Yt,Yu,Yv,Yy,Yz,Y2,Y9,Za,Zb,Zc,Zd,Ze,Zg,Zh,Zk,Zl,Zm,Zn,Zo,Zt,Zv,Zw,Zx,Zy,Zz,Z0,Z1,Z3,Ja,Jb,Jj,Jk,Jm,Jn,Jo,Jq,Jr,Js,Jv,J1,J2,Kv,Kx,K8,K9,Ua,Ub,Uc,Ud,Ue,Uf,Ug,Ul,Us,Ut,Ux,U0,U4,U5,U6,U7,Vb,Ve,Vk,Vm,Vo,Vp,Vq,Vr,Vs,Vt,Vu,Vv,Vw,Vx,Vy,Vz,V0,V1,V3,V6,V9,Wd,We,Hh,Hi,Hk,Hl,Ho,Hp,Hq,Hr,Hs,Ht,Hu,Hv,Hw,H1,H2,H3,H4,H5,H6,Nc,Ne,Nh,Ni,Nk,Nl,Nm,No,Nu,Nw,Nx,Nz,N0,N2,Be,Bg,Bh,q8R0.eq_1,q8R1.eq_1,q8R2.eq_1,q8R3.eq_1,q8R4.eq_1,q8R5.eq_1,q8R6.eq_1,q8R7.eq_1,q8R8.eq_1,q8R10.eq_1,q8R11.eq_1,q8R12.eq_1,q8R13.eq_1,q8R14.eq_1,q8R15.eq_1,q8R16.eq_1,q8R17.eq_1,q8R18.eq_1,q8R19.eq_1,q8R20.eq_1,q8R21.eq_1,q8R23.eq_1,q8R24.eq_1,q8R22.eq_1,q8R25.eq_1,q8R26.eq_1,q8R27.eq_1,q8R28.eq_1,q8R29.eq_1,q8R30.eq_1,q8R31.eq_1,q8R32.eq_1,q8R33.eq_1,q8R34.eq_1,q8R35.eq_1,q8R36.eq_1,q8R38.eq_1,q8R39.eq_1,q8R37.eq_1,q8R40.eq_1,q8R41.eq_1,q8R42.eq_1,q8R43.eq_1,q8R44.eq_1,q8R45.eq_1,q8R46.eq_1,q8R47.eq_1,q8R9.eq_1,q8R48.eq_1,c_law30_SessionRights.eq_1,c_law30_SessionRights_L0.eq_1,hil,hg,hln,hw,hbl,g1,g2,g3,a1,a2,a3,a4,a5,List.append_nil,hT,ka,s1,hw2,hj9,hq4,hB,hwb,tkd,hle,hh,x1,x2,x3,x4,x5,x6,x7,hMx,hRx,hLx,hql,h0]; tactic => (
            refine hnx _ ?_
            (sym => simp [Qa,Qc,Qd,Qe,Qf,Qg,Qi,Qj,Qm,Qn,Qo,Qr,Qt,Qu,Qv,Qx,Qy,Qz,Q0,Q1,Q2,Q4,Q5,Xa,Xd,Xp,Xs,Xt,Xw,Xx,Xy,X0,X5,X8,X9,Ya,Yb,Yc,Yg,Yh,Yj,Yk,Yn,Yr,Ys,Yt,Yu,Yv,Yy,Yz,Y2,Y9,Za,Zb,Zc,Zd,Ze,Zg,Zh,Zk,Zl,Zm,Zn,Zo,Zt,Zv,Zw,Zx,Zy,Zz,Z0,Z1,Z3,Ja,Jb,Jj,Jk,Jm,Jn,Jo,Jq,Jr,Js,Jv,J1,J2,Kv,Kx,K8,K9,Ua,Ub,Uc,Ud,Ue,Uf,Ug,Ul,Us,Ut,Ux,U0,U4,U5,U6,U7,Vb,Ve,Vk,Vm,Vo,Vp,Vq,Vr,Vs,Vt,Vu,Vv,Vw,Vx,Vy,Vz,V0,V1,V3,V6,V9,Wd,We,Hh,Hi,Hk,Hl,Ho,Hp,Hq,Hr,Hs,Ht,Hu,Hv,Hw,H1,H2,H3,H4,H5,H6,Nc,Ne,Nh,Ni,Nk,Nl,Nm,No,Nu,Nw,Nx,Nz,N0,N2,Be,Bg,Bh,x5,a5,List.append_nil])))
    · rw [if_neg (fun h => k1 h.1)] at hi
      have x1 := sC_len x
      have x2 := sC_st x
      have x3 := sC_all x
      have x4 := sC_v x
      have x5 : (sC x).drop 33 = [] := rfl
      have x6 := sC_1 x
      have x7 := sC_3 x
      have okx := okS_may hi.may
      have hMx := smay30_P G x okx
      rw [hi.may] at hMx
      have hRx := role30_P G x x.h okx.1
      have hLx := least30_P G x hi.may
      rw [hi.least] at hLx
      have hho := holds hi.may
      have hql : (pcs x.q).length = due.length := by rw [pcs_len]; exact (core_len hi.due).symm
      by_cases h0 : x.h = 0
      · rw [h0] at hRx x6
        have hnx := hnext x (due) (a) (P) hi hP ha
        generalize sC x = scx at *
        generalize sC s = scs at *
        (sym => simp [Qa,Qc,Qd,Qe,Qf,Qg,Qi,Qj,Qm,Qn,Qo,Qr,Qt,Qu,Qv,Qx,Qy,Qz,Q0,Q1,Q2,Q4,Q5,Xa,Xd,Xp,Xs,Xt,Xw,Xx,Xy,X0,X5,X8,X9,Ya,Yb,Yc,Yg,Yh,Yj,Yk,Yn,Yr,Ys,Yt,Yu,Yv,Yy,Yz,Y2,Y9,Za,Zb,Zc,Zd,Ze,Zg,Zh,Zk,Zl,Zm,Zn,Zo,Zt,Zv,Zw,Zx,Zy,Zz,Z0,Z1,Z3,Ja,Jb,Jj,Jk,Jm,Jn,Jo,Jq,Jr,Js,Jv,J1,J2,Kv,Kx,K8,K9,Ua,Ub,Uc,Ud,Ue,Uf,Ug,Ul,Us,Ut,Ux,U0,U4,U5,U6,U7,Vb,Ve,Vk,Vm,Vo,Vp,Vq,Vr,Vs,Vt,Vu,Vv,Vw,Vx,Vy,Vz,V0,V1,V3,V6,V9,Wd,We,Hh,Hi,Hk,Hl,Ho,Hp,Hq,Hr,Hs,Ht,Hu,Hv,Hw,H1,H2,H3,H4,H5,H6,Nc,Ne,Nh,Ni,Nk,Nl,Nm,No,Nu,Nw,Nx,Nz,N0,N2,Be,Bg,Bh,q8R0.eq_1,q8R1.eq_1,q8R2.eq_1,q8R3.eq_1,q8R4.eq_1,q8R5.eq_1,q8R6.eq_1,q8R7.eq_1,q8R8.eq_1,q8R10.eq_1,q8R11.eq_1,q8R12.eq_1,q8R13.eq_1,q8R14.eq_1,q8R15.eq_1,q8R16.eq_1,q8R17.eq_1,q8R18.eq_1,q8R19.eq_1,q8R20.eq_1,q8R21.eq_1,q8R23.eq_1,q8R24.eq_1,q8R22.eq_1,q8R25.eq_1,q8R26.eq_1,q8R27.eq_1,q8R28.eq_1,q8R29.eq_1,q8R30.eq_1,q8R31.eq_1,q8R32.eq_1,q8R33.eq_1,q8R34.eq_1,q8R35.eq_1,q8R36.eq_1,q8R38.eq_1,q8R39.eq_1,q8R37.eq_1,q8R40.eq_1,q8R41.eq_1,q8R42.eq_1,q8R43.eq_1,q8R44.eq_1,q8R45.eq_1,q8R46.eq_1,q8R47.eq_1,q8R9.eq_1,q8R48.eq_1,c_law30_SessionRights.eq_1,c_law30_SessionRights_L0.eq_1,hil,hg,hln,hw,hbl,g1,g2,g3,a1,a2,a3,a4,a5,List.append_nil,hT,ka,s1,hw2,hj9,hq4,hB,hwb,tkd,hle,k1,x1,x2,x3,x4,x5,x6,x7,hMx,hRx,hLx,hql,h0]; tactic => (
          refine hnx _ ?_
          (sym => simp [Qa,Qc,Qd,Qe,Qf,Qg,Qi,Qj,Qm,Qn,Qo,Qr,Qt,Qu,Qv,Qx,Qy,Qz,Q0,Q1,Q2,Q4,Q5,Xa,Xd,Xp,Xs,Xt,Xw,Xx,Xy,X0,X5,X8,X9,Ya,Yb,Yc,Yg,Yh,Yj,Yk,Yn,Yr,Ys,Yt,Yu,Yv,Yy,Yz,Y2,Y9,Za,Zb,Zc,Zd,Ze,Zg,Zh,Zk,Zl,Zm,Zn,Zo,Zt,Zv,Zw,Zx,Zy,Zz,Z0,Z1,Z3,Ja,Jb,Jj,Jk,Jm,Jn,Jo,Jq,Jr,Js,Jv,J1,J2,Kv,Kx,K8,K9,Ua,Ub,Uc,Ud,Ue,Uf,Ug,Ul,Us,Ut,Ux,U0,U4,U5,U6,U7,Vb,Ve,Vk,Vm,Vo,Vp,Vq,Vr,Vs,Vt,Vu,Vv,Vw,Vx,Vy,Vz,V0,V1,V3,V6,V9,Wd,We,Hh,Hi,Hk,Hl,Ho,Hp,Hq,Hr,Hs,Ht,Hu,Hv,Hw,H1,H2,H3,H4,H5,H6,Nc,Ne,Nh,Ni,Nk,Nl,Nm,No,Nu,Nw,Nx,Nz,N0,N2,Be,Bg,Bh,x5,a5,List.append_nil])))
      · have hro := hho h0
        rw [hro] at hRx
        have hnx := hnext x (due) (a) (P) hi hP ha
        generalize sC x = scx at *
        generalize sC s = scs at *
        (sym => simp [Qa,Qc,Qd,Qe,Qf,Qg,Qi,Qj,Qm,Qn,Qo,Qr,Qt,Qu,Qv,Qx,Qy,Qz,Q0,Q1,Q2,Q4,Q5,Xa,Xd,Xp,Xs,Xt,Xw,Xx,Xy,X0,X5,X8,X9,Ya,Yb,Yc,Yg,Yh,Yj,Yk,Yn,Yr,Ys,Yt,Yu,Yv,Yy,Yz,Y2,Y9,Za,Zb,Zc,Zd,Ze,Zg,Zh,Zk,Zl,Zm,Zn,Zo,Zt,Zv,Zw,Zx,Zy,Zz,Z0,Z1,Z3,Ja,Jb,Jj,Jk,Jm,Jn,Jo,Jq,Jr,Js,Jv,J1,J2,Kv,Kx,K8,K9,Ua,Ub,Uc,Ud,Ue,Uf,Ug,Ul,Us,Ut,Ux,U0,U4,U5,U6,U7,Vb,Ve,Vk,Vm,Vo,Vp,Vq,Vr,Vs,Vt,Vu,Vv,Vw,Vx,Vy,Vz,V0,V1,V3,V6,V9,Wd,We,Hh,Hi,Hk,Hl,Ho,Hp,Hq,Hr,Hs,Ht,Hu,Hv,Hw,H1,H2,H3,H4,H5,H6,Nc,Ne,Nh,Ni,Nk,Nl,Nm,No,Nu,Nw,Nx,Nz,N0,N2,Be,Bg,Bh,q8R0.eq_1,q8R1.eq_1,q8R2.eq_1,q8R3.eq_1,q8R4.eq_1,q8R5.eq_1,q8R6.eq_1,q8R7.eq_1,q8R8.eq_1,q8R10.eq_1,q8R11.eq_1,q8R12.eq_1,q8R13.eq_1,q8R14.eq_1,q8R15.eq_1,q8R16.eq_1,q8R17.eq_1,q8R18.eq_1,q8R19.eq_1,q8R20.eq_1,q8R21.eq_1,q8R23.eq_1,q8R24.eq_1,q8R22.eq_1,q8R25.eq_1,q8R26.eq_1,q8R27.eq_1,q8R28.eq_1,q8R29.eq_1,q8R30.eq_1,q8R31.eq_1,q8R32.eq_1,q8R33.eq_1,q8R34.eq_1,q8R35.eq_1,q8R36.eq_1,q8R38.eq_1,q8R39.eq_1,q8R37.eq_1,q8R40.eq_1,q8R41.eq_1,q8R42.eq_1,q8R43.eq_1,q8R44.eq_1,q8R45.eq_1,q8R46.eq_1,q8R47.eq_1,q8R9.eq_1,q8R48.eq_1,c_law30_SessionRights.eq_1,c_law30_SessionRights_L0.eq_1,hil,hg,hln,hw,hbl,g1,g2,g3,a1,a2,a3,a4,a5,List.append_nil,hT,ka,s1,hw2,hj9,hq4,hB,hwb,tkd,hle,k1,x1,x2,x3,x4,x5,x6,x7,hMx,hRx,hLx,hql,h0]; tactic => (
          refine hnx _ ?_
          (sym => simp [Qa,Qc,Qd,Qe,Qf,Qg,Qi,Qj,Qm,Qn,Qo,Qr,Qt,Qu,Qv,Qx,Qy,Qz,Q0,Q1,Q2,Q4,Q5,Xa,Xd,Xp,Xs,Xt,Xw,Xx,Xy,X0,X5,X8,X9,Ya,Yb,Yc,Yg,Yh,Yj,Yk,Yn,Yr,Ys,Yt,Yu,Yv,Yy,Yz,Y2,Y9,Za,Zb,Zc,Zd,Ze,Zg,Zh,Zk,Zl,Zm,Zn,Zo,Zt,Zv,Zw,Zx,Zy,Zz,Z0,Z1,Z3,Ja,Jb,Jj,Jk,Jm,Jn,Jo,Jq,Jr,Js,Jv,J1,J2,Kv,Kx,K8,K9,Ua,Ub,Uc,Ud,Ue,Uf,Ug,Ul,Us,Ut,Ux,U0,U4,U5,U6,U7,Vb,Ve,Vk,Vm,Vo,Vp,Vq,Vr,Vs,Vt,Vu,Vv,Vw,Vx,Vy,Vz,V0,V1,V3,V6,V9,Wd,We,Hh,Hi,Hk,Hl,Ho,Hp,Hq,Hr,Hs,Ht,Hu,Hv,Hw,H1,H2,H3,H4,H5,H6,Nc,Ne,Nh,Ni,Nk,Nl,Nm,No,Nu,Nw,Nx,Nz,N0,N2,Be,Bg,Bh,x5,a5,List.append_nil])))
  · have hzz := take_none he
    rw [hzz] at hT
    generalize (takeS s j (s.k j + 1) (dk, dt, dr, dcc, df)).2 = te at *
    have z1 := sC_len zS
    have z2 := sC_st zS
    have z3 := sC_all zS
    have z5 : (sC zS).drop 33 = [] := rfl
    have z6 : (sC zS)[0]? = some (.data false 2 [] false) := rfl
    generalize sC zS = scz at *
    have hnx := hnext s (due) (a) (P) h hP ha
    generalize sC s = scs at *
    (sym => simp [Qa,Qc,Qd,Qe,Qf,Qg,Qi,Qj,Qm,Qn,Qo,Qr,Qt,Qu,Qv,Qx,Qy,Qz,Q0,Q1,Q2,Q4,Q5,Xa,Xd,Xp,Xs,Xt,Xw,Xx,Xy,X0,X5,X8,X9,Ya,Yb,Yc,Yg,Yh,Yj,Yk,Yn,Yr,Ys,Yt,Yu,Yv,Yy,Yz,Y2,Y9,Za,Zb,Zc,Zd,Ze,Zg,Zh,Zk,Zl,Zm,Zn,Zo,Zt,Zv,Zw,Zx,Zy,Zz,Z0,Z1,Z3,Ja,Jb,Jj,Jk,Jm,Jn,Jo,Jq,Jr,Js,Jv,J1,J2,Kv,Kx,K8,K9,Ua,Ub,Uc,Ud,Ue,Uf,Ug,Ul,Us,Ut,Ux,U0,U4,U5,U6,U7,Vb,Ve,Vk,Vm,Vo,Vp,Vq,Vr,Vs,Vt,Vu,Vv,Vw,Vx,Vy,Vz,V0,V1,V3,V6,V9,Wd,We,Hh,Hi,Hk,Hl,Ho,Hp,Hq,Hr,Hs,Ht,Hu,Hv,Hw,H1,H2,H3,H4,H5,H6,Nc,Ne,Nh,Ni,Nk,Nl,Nm,No,Nu,Nw,Nx,Nz,N0,N2,Be,Bg,Bh,q8R0.eq_1,q8R1.eq_1,q8R2.eq_1,q8R3.eq_1,q8R4.eq_1,q8R5.eq_1,q8R6.eq_1,q8R7.eq_1,q8R8.eq_1,q8R10.eq_1,q8R11.eq_1,q8R12.eq_1,q8R13.eq_1,q8R14.eq_1,q8R15.eq_1,q8R16.eq_1,q8R17.eq_1,q8R18.eq_1,q8R19.eq_1,q8R20.eq_1,q8R21.eq_1,q8R23.eq_1,q8R24.eq_1,q8R22.eq_1,q8R25.eq_1,q8R26.eq_1,q8R27.eq_1,q8R28.eq_1,q8R29.eq_1,q8R30.eq_1,q8R31.eq_1,q8R32.eq_1,q8R33.eq_1,q8R34.eq_1,q8R35.eq_1,q8R36.eq_1,q8R38.eq_1,q8R39.eq_1,q8R37.eq_1,q8R40.eq_1,q8R41.eq_1,q8R42.eq_1,q8R43.eq_1,q8R44.eq_1,q8R45.eq_1,q8R46.eq_1,q8R47.eq_1,q8R9.eq_1,q8R48.eq_1,c_law30_SessionRights.eq_1,c_law30_SessionRights_L0.eq_1,hil,hg,hln,hw,hbl,g1,g2,g3,a1,a2,a3,a4,a5,List.append_nil,hT,ka,s1,hw2,hj9,hq4,hB,hwb,tkd,hle,z1,z2,z3,z5,z6,he]; tactic => (
      refine hnx _ ?_
      (sym => simp [Qa,Qc,Qd,Qe,Qf,Qg,Qi,Qj,Qm,Qn,Qo,Qr,Qt,Qu,Qv,Qx,Qy,Qz,Q0,Q1,Q2,Q4,Q5,Xa,Xd,Xp,Xs,Xt,Xw,Xx,Xy,X0,X5,X8,X9,Ya,Yb,Yc,Yg,Yh,Yj,Yk,Yn,Yr,Ys,Yt,Yu,Yv,Yy,Yz,Y2,Y9,Za,Zb,Zc,Zd,Ze,Zg,Zh,Zk,Zl,Zm,Zn,Zo,Zt,Zv,Zw,Zx,Zy,Zz,Z0,Z1,Z3,Ja,Jb,Jj,Jk,Jm,Jn,Jo,Jq,Jr,Js,Jv,J1,J2,Kv,Kx,K8,K9,Ua,Ub,Uc,Ud,Ue,Uf,Ug,Ul,Us,Ut,Ux,U0,U4,U5,U6,U7,Vb,Ve,Vk,Vm,Vo,Vp,Vq,Vr,Vs,Vt,Vu,Vv,Vw,Vx,Vy,Vz,V0,V1,V3,V6,V9,Wd,We,Hh,Hi,Hk,Hl,Ho,Hp,Hq,Hr,Hs,Ht,Hu,Hv,Hw,H1,H2,H3,H4,H5,H6,Nc,Ne,Nh,Ni,Nk,Nl,Nm,No,Nu,Nw,Nx,Nz,N0,N2,Be,Bg,Bh,a5,List.append_nil])))
theorem ri_write (l : List Rst) (f : Bool) (hl : l.length ≤ 150) (i : Nat) (hi : i < l.length) (kd n r dk dr dcc : Int) (dt : List Int) (df : Bool) (j : Nat) (hx : l[i] = (kd, (j : Int), n, r, dk, dt, dr, dcc, df)) (h1 : 1 ≤ j) (h8 : j ≤ 8) (ht : dt.length ≤ 16) (hnn : n ≤ 9223372036854775807) (s : Ses) (due : List Pc) (h : RInv s due) (a : Nat) (P : List (List AV)) (hP : P.drop a = pcs due) (ha : a ≤ P.length) (hk : kd = 4)
    (st : ASt) (hst : agc 0 [0, 3, 4, 5] st = some (riSt l f s due a P i)) (Q : Option (AEx × ASt) → Prop)
    (hnext : ∀ s' due' a' P', RInv s' due' → List.drop a' P' = pcs due' → a' ≤ List.length P' → ∀ st', agc 0 [0, 3, 4, 5] st' = some (riSt l f s' due' a' P' (i + 1)) → Q (aE G FT 0 lp_law30_SessionRights_0 st')) :
    Q (aE G FT 0 lp_law30_SessionRights_0 st) := by
  have oks := okS_may h.may
  have hdl := core_len h.due
  have hdn : due.length ≤ 1000 := by have := oks.2.2.1; omega
  have hPl := drop_len' hP ha
  have hil : (i : Int) < l.length := by omega
  have hg := rsts_at hi
  rw [hx] at hg
  simp only [rstC] at hg
  have hln := rsts_len l
  have hw := wrap_nat (n := i) (by omega)
  have hbl := byt_len dt
  have g1 : ¬ (j : Int) < 1 := by omega
  have g2 : ¬ (8 : Int) < j := by omega
  have g3 : ¬ (16 : Int) < dt.length := by omega
  have a1 := sC_len s
  have a2 := sC_st s
  have a3 := sC_all s
  have a4 := sC_v s
  have a5 : (sC s).drop 33 = [] := rfl
  unfold riSt at hst hnext
  rw [lp_law30_SessionRights_0] at hnext
  rw [lp_law30_SessionRights_0, y_loop, hst]
  subst hk
  have hW := write30_P G s oks n hnn
  obtain ⟨hi, hol, hoc⟩ := write_inv h n
  have k2 := fun B => ri_loop2 G (rsts l) f (sC s) B P a due hP ha hdn i 0 (writeS s n).2 false hol hoc (writeS s n).2.length 0 (by omega)
  simp only [Int.natCast_zero] at k2
  generalize (writeS s n).1 = x at *
  generalize (writeS s n).2 = out at *
  have lo := pcs_len out
  have dd : (due.drop out.length).length = due.length - out.length := by rw [List.length_drop]
  have hP2 : List.drop (a + out.length) P = pcs (due.drop out.length) := by rw [← List.drop_drop, hP, pcs, pcs, List.map_drop]
  have ha2 : a + out.length ≤ P.length := by omega
  have hlo : (0 : Int) ≤ out.length := by omega
  have hlo2 : out.length ≤ due.length := hol
  have x1 := sC_len x
  have x2 := sC_st x
  have x3 := sC_all x
  have x4 := sC_v x
  have x5 : (sC x).drop 33 = [] := rfl
  have x6 := sC_1 x
  have x7 := sC_3 x
  have okx := okS_may hi.may
  have hMx := smay30_P G x okx
  rw [hi.may] at hMx
  have hRx := role30_P G x x.h okx.1
  have hLx := least30_P G x hi.may
  rw [hi.least] at hLx
  have hho := holds hi.may
  have hql : (pcs x.q).length = (due.drop out.length).length := by rw [pcs_len]; exact (core_len hi.due).symm
  rw [dd] at hql
  have k2 := fun st (hst : agc 0 [0, 3, 4, 5, 7, 8, 11, 12] st = some ⟨[(0, .data false 8 (rsts l) f), (3, .ptr 0 0 0 0), (4, .own 1 0 a due.length due.length), (5, .int .i64 i), (7, .ptr 2 0 0 0), (8, .int .i64 0), (11, .data false 3 (pcs out) false), (12, .int .i64 0)], [⟨33, 0, true, [sC s]⟩, ⟨3, 0, true, P⟩, ⟨33, 0, true, [sC x]⟩]⟩) => (show aE G FT 0 lp_law30_SessionRights_2 st = some (.exit 5, ⟨[(0, .data false 8 (rsts l) f), (3, .ptr 0 0 0 0), (4, .own 1 0 a due.length due.length), (5, .int .i64 i), (7, .ptr 2 0 0 0), (8, .int .i64 0), (11, .data false 3 (pcs out) false), (12, .int .i64 out.length), (171, .bool false)], [⟨33, 0, true, [sC s]⟩, ⟨3, 0, true, P⟩, ⟨33, 0, true, [sC x]⟩]⟩) by
    rw [← k2 (sC x), lp_law30_SessionRights_2]
    exact loop_gc hst (by (sym => simp [Qc,Qd,Qe,Qf,Qg,Qi,Qj,Qm,Qn,Qo,Qr,Qt,Qu,Qv,Q4,Q5,Xa,Xd,Xl,Xm,Xn,Xp,Xs,Xw,Xx,Xy,X5,X8,X9,Ya,Yc,Yg,Yh,Yr,Ys,Yt,Yu,Yv,Yy,Y9,Za,Zb,Zc,Zd,Ze,Zg,Zh,Zk,Zl,Zm,Zn,Zo,Zt,Zv,Zw,Zx,Zy,Zz,Z0,Z1,Z3,Ja,Jb,Jj,Jk,Jn,Jo,Jq,Jr,Js,Jv,J1,J2,K0,K1,K2,Ue,Uf,Ug,Ul,Us,Ut,Ux,U0,U4,U5,U6,U7,Vb,Ve,Vk,Vm,Vo,Vp,Vq,Vr,Vs,Vt,Vu,Vv,Vw,Vx,Vy,Vz,V0,V3,V6,Wd,We,Hh,Hi,Hk,Hl,Ho,Hp,Hq,Hr,Hs,Ht,Hu,Hv,Hw,H1,H4,H5,H6,Ne,Ng,Ni,Nk,Nl,Nm,No,Nu,Nw,Nx,Nz,N0,Be])))
  have k2 := k2 ⟨[(0, .data false 8 (rsts l) f), (3, .ptr 0 0 0 0), (4, .own 1 0 a due.length due.length), (5, .int .i64 i), (7, .ptr 3 0 0 0), (8, .int .i64 0), (11, .data false 3 (pcs out) false), (12, .int .i64 0)], [⟨33, 0, true, [sC s]⟩, ⟨3, 0, true, P⟩, ⟨8, 0, true, [[.int .i64 4, .int .i64 (j : Int), .int .i64 n, .int .i64 r, .int .i64 dk, .data false 1 (byt dt) df, .int .i64 dr, .int .i64 dcc]]⟩, ⟨33, 0, true, [sC x]⟩]⟩ (by (sym => simp [Qc,Qd,Qe,Qf,Qg,Qi,Qj,Qm,Qn,Qo,Qr,Qt,Qu,Qv,Q4,Q5,Xa,Xd,Xl,Xm,Xn,Xp,Xs,Xw,Xx,Xy,X5,X8,X9,Ya,Yc,Yg,Yh,Yr,Ys,Yt,Yu,Yv,Yy,Y9,Za,Zb,Zc,Zd,Ze,Zg,Zh,Zk,Zl,Zm,Zn,Zo,Zt,Zv,Zw,Zx,Zy,Zz,Z0,Z1,Z3,Ja,Jb,Jj,Jk,Jn,Jo,Jq,Jr,Js,Jv,J1,J2,K0,K1,K2,Ue,Uf,Ug,Ul,Us,Ut,Ux,U0,U4,U5,U6,U7,Vb,Ve,Vk,Vm,Vo,Vp,Vq,Vr,Vs,Vt,Vu,Vv,Vw,Vx,Vy,Vz,V0,V3,V6,Wd,We,Hh,Hi,Hk,Hl,Ho,Hp,Hq,Hr,Hs,Ht,Hu,Hv,Hw,H1,H4,H5,H6,Ne,Ng,Ni,Nk,Nl,Nm,No,Nu,Nw,Nx,Nz,N0,Be]))
  by_cases h0 : x.h = 0
  · rw [h0] at hRx x6
    have hnx := hnext x (due.drop out.length) (a + out.length) (P) hi hP2 ha2
    rw [dd] at hnx
    generalize sC x = scx at *
    generalize sC s = scs at *
    (sym => simp [Qc,Qd,Qe,Qf,Qg,Qi,Qj,Qm,Qn,Qo,Qr,Qt,Qu,Qv,Q4,Q5,Xa,Xd,Xl,Xm,Xn,Xp,Xs,Xw,Xx,Xy,X5,X8,X9,Ya,Yc,Yg,Yh,Yr,Ys,Yt,Yu,Yv,Yy,Y9,Za,Zb,Zc,Zd,Ze,Zg,Zh,Zk,Zl,Zm,Zn,Zo,Zt,Zv,Zw,Zx,Zy,Zz,Z0,Z1,Z3,Ja,Jb,Jj,Jk,Jn,Jo,Jq,Jr,Js,Jv,J1,J2,K0,K1,K2,Ue,Uf,Ug,Ul,Us,Ut,Ux,U0,U4,U5,U6,U7,Vb,Ve,Vk,Vm,Vo,Vp,Vq,Vr,Vs,Vt,Vu,Vv,Vw,Vx,Vy,Vz,V0,V3,V6,Wd,We,Hh,Hi,Hk,Hl,Ho,Hp,Hq,Hr,Hs,Ht,Hu,Hv,Hw,H1,H4,H5,H6,Ne,Ng,Ni,Nk,Nl,Nm,No,Nu,Nw,Nx,Nz,N0,Be,q8R0.eq_1,q8R1.eq_1,q8R2.eq_1,q8R3.eq_1,q8R4.eq_1,q8R5.eq_1,q8R6.eq_1,q8R7.eq_1,q8R8.eq_1,q8R10.eq_1,q8R11.eq_1,q8R12.eq_1,q8R13.eq_1,q8R14.eq_1,q8R15.eq_1,q8R16.eq_1,q8R17.eq_1,q8R18.eq_1,q8R19.eq_1,q8R20.eq_1,q8R21.eq_1,q8R23.eq_1,q8R24.eq_1,q8R22.eq_1,q8R25.eq_1,q8R26.eq_1,q8R27.eq_1,q8R28.eq_1,q8R29.eq_1,q8R30.eq_1,q8R31.eq_1,q8R32.eq_1,q8R33.eq_1,q8R34.eq_1,q8R35.eq_1,q8R36.eq_1,q8R38.eq_1,q8R39.eq_1,q8R37.eq_1,q8R40.eq_1,q8R41.eq_1,q8R42.eq_1,q8R43.eq_1,q8R44.eq_1,q8R45.eq_1,q8R46.eq_1,q8R47.eq_1,q8R9.eq_1,q8R48.eq_1,c_law30_SessionRights.eq_1,c_law30_SessionRights_L0.eq_1,hil,hg,hln,hw,hbl,g1,g2,g3,a1,a2,a3,a4,a5,List.append_nil,hW,k2,lo,hlo,hlo2,x1,x2,x3,x4,x5,x6,x7,hMx,hRx,hLx,hql,h0]; tactic => (
      refine hnx _ ?_
      (sym => simp [Qc,Qd,Qe,Qf,Qg,Qi,Qj,Qm,Qn,Qo,Qr,Qt,Qu,Qv,Q4,Q5,Xa,Xd,Xl,Xm,Xn,Xp,Xs,Xw,Xx,Xy,X5,X8,X9,Ya,Yc,Yg,Yh,Yr,Ys,Yt,Yu,Yv,Yy,Y9,Za,Zb,Zc,Zd,Ze,Zg,Zh,Zk,Zl,Zm,Zn,Zo,Zt,Zv,Zw,Zx,Zy,Zz,Z0,Z1,Z3,Ja,Jb,Jj,Jk,Jn,Jo,Jq,Jr,Js,Jv,J1,J2,K0,K1,K2,Ue,Uf,Ug,Ul,Us,Ut,Ux,U0,U4,U5,U6,U7,Vb,Ve,Vk,Vm,Vo,Vp,Vq,Vr,Vs,Vt,Vu,Vv,Vw,Vx,Vy,Vz,V0,V3,V6,Wd,We,Hh,Hi,Hk,Hl,Ho,Hp,Hq,Hr,Hs,Ht,Hu,Hv,Hw,H1,H4,H5,H6,Ne,Ng,Ni,Nk,Nl,Nm,No,Nu,Nw,Nx,Nz,N0,Be,x5,a5,List.append_nil])))
  · have hro := hho h0
    rw [hro] at hRx
    have hnx := hnext x (due.drop out.length) (a + out.length) (P) hi hP2 ha2
    rw [dd] at hnx
    generalize sC x = scx at *
    generalize sC s = scs at *
    (sym => simp [Qc,Qd,Qe,Qf,Qg,Qi,Qj,Qm,Qn,Qo,Qr,Qt,Qu,Qv,Q4,Q5,Xa,Xd,Xl,Xm,Xn,Xp,Xs,Xw,Xx,Xy,X5,X8,X9,Ya,Yc,Yg,Yh,Yr,Ys,Yt,Yu,Yv,Yy,Y9,Za,Zb,Zc,Zd,Ze,Zg,Zh,Zk,Zl,Zm,Zn,Zo,Zt,Zv,Zw,Zx,Zy,Zz,Z0,Z1,Z3,Ja,Jb,Jj,Jk,Jn,Jo,Jq,Jr,Js,Jv,J1,J2,K0,K1,K2,Ue,Uf,Ug,Ul,Us,Ut,Ux,U0,U4,U5,U6,U7,Vb,Ve,Vk,Vm,Vo,Vp,Vq,Vr,Vs,Vt,Vu,Vv,Vw,Vx,Vy,Vz,V0,V3,V6,Wd,We,Hh,Hi,Hk,Hl,Ho,Hp,Hq,Hr,Hs,Ht,Hu,Hv,Hw,H1,H4,H5,H6,Ne,Ng,Ni,Nk,Nl,Nm,No,Nu,Nw,Nx,Nz,N0,Be,q8R0.eq_1,q8R1.eq_1,q8R2.eq_1,q8R3.eq_1,q8R4.eq_1,q8R5.eq_1,q8R6.eq_1,q8R7.eq_1,q8R8.eq_1,q8R10.eq_1,q8R11.eq_1,q8R12.eq_1,q8R13.eq_1,q8R14.eq_1,q8R15.eq_1,q8R16.eq_1,q8R17.eq_1,q8R18.eq_1,q8R19.eq_1,q8R20.eq_1,q8R21.eq_1,q8R23.eq_1,q8R24.eq_1,q8R22.eq_1,q8R25.eq_1,q8R26.eq_1,q8R27.eq_1,q8R28.eq_1,q8R29.eq_1,q8R30.eq_1,q8R31.eq_1,q8R32.eq_1,q8R33.eq_1,q8R34.eq_1,q8R35.eq_1,q8R36.eq_1,q8R38.eq_1,q8R39.eq_1,q8R37.eq_1,q8R40.eq_1,q8R41.eq_1,q8R42.eq_1,q8R43.eq_1,q8R44.eq_1,q8R45.eq_1,q8R46.eq_1,q8R47.eq_1,q8R9.eq_1,q8R48.eq_1,c_law30_SessionRights.eq_1,c_law30_SessionRights_L0.eq_1,hil,hg,hln,hw,hbl,g1,g2,g3,a1,a2,a3,a4,a5,List.append_nil,hW,k2,lo,hlo,hlo2,x1,x2,x3,x4,x5,x6,x7,hMx,hRx,hLx,hql,h0]; tactic => (
      refine hnx _ ?_
      (sym => simp [Qc,Qd,Qe,Qf,Qg,Qi,Qj,Qm,Qn,Qo,Qr,Qt,Qu,Qv,Q4,Q5,Xa,Xd,Xl,Xm,Xn,Xp,Xs,Xw,Xx,Xy,X5,X8,X9,Ya,Yc,Yg,Yh,Yr,Ys,Yt,Yu,Yv,Yy,Y9,Za,Zb,Zc,Zd,Ze,Zg,Zh,Zk,Zl,Zm,Zn,Zo,Zt,Zv,Zw,Zx,Zy,Zz,Z0,Z1,Z3,Ja,Jb,Jj,Jk,Jn,Jo,Jq,Jr,Js,Jv,J1,J2,K0,K1,K2,Ue,Uf,Ug,Ul,Us,Ut,Ux,U0,U4,U5,U6,U7,Vb,Ve,Vk,Vm,Vo,Vp,Vq,Vr,Vs,Vt,Vu,Vv,Vw,Vx,Vy,Vz,V0,V3,V6,Wd,We,Hh,Hi,Hk,Hl,Ho,Hp,Hq,Hr,Hs,Ht,Hu,Hv,Hw,H1,H4,H5,H6,Ne,Ng,Ni,Nk,Nl,Nm,No,Nu,Nw,Nx,Nz,N0,Be,x5,a5,List.append_nil])))
theorem ri_other (l : List Rst) (f : Bool) (hl : l.length ≤ 150) (i : Nat) (hi : i < l.length) (kd n r dk dr dcc : Int) (dt : List Int) (df : Bool) (j : Nat) (hx : l[i] = (kd, (j : Int), n, r, dk, dt, dr, dcc, df)) (h1 : 1 ≤ j) (h8 : j ≤ 8) (ht : dt.length ≤ 16) (hnn : n ≤ 9223372036854775807) (s : Ses) (due : List Pc) (h : RInv s due) (a : Nat) (P : List (List AV)) (hP : P.drop a = pcs due) (ha : a ≤ P.length) (k0 : ¬ kd = 0) (k1 : ¬ kd = 1) (k2 : ¬ kd = 2) (k3 : ¬ kd = 3) (k4 : ¬ kd = 4)
    (st : ASt) (hst : agc 0 [0, 3, 4, 5] st = some (riSt l f s due a P i)) (Q : Option (AEx × ASt) → Prop)
    (hnext : ∀ s' due' a' P', RInv s' due' → List.drop a' P' = pcs due' → a' ≤ List.length P' → ∀ st', agc 0 [0, 3, 4, 5] st' = some (riSt l f s' due' a' P' (i + 1)) → Q (aE G FT 0 lp_law30_SessionRights_0 st')) :
    Q (aE G FT 0 lp_law30_SessionRights_0 st) := by
  have oks := okS_may h.may
  have hdl := core_len h.due
  have hdn : due.length ≤ 1000 := by have := oks.2.2.1; omega
  have hPl := drop_len' hP ha
  have hil : (i : Int) < l.length := by omega
  have hg := rsts_at hi
  rw [hx] at hg
  simp only [rstC] at hg
  have hln := rsts_len l
  have hw := wrap_nat (n := i) (by omega)
  have hbl := byt_len dt
  have g1 : ¬ (j : Int) < 1 := by omega
  have g2 : ¬ (8 : Int) < j := by omega
  have g3 : ¬ (16 : Int) < dt.length := by omega
  have a1 := sC_len s
  have a2 := sC_st s
  have a3 := sC_all s
  have a4 := sC_v s
  have a5 : (sC s).drop 33 = [] := rfl
  unfold riSt at hst hnext
  rw [lp_law30_SessionRights_0] at hnext
  rw [lp_law30_SessionRights_0, y_loop, hst]
  have x1 := sC_len s
  have x2 := sC_st s
  have x3 := sC_all s
  have x4 := sC_v s
  have x5 : (sC s).drop 33 = [] := rfl
  have x6 := sC_1 s
  have x7 := sC_3 s
  have okx := okS_may h.may
  have hMx := smay30_P G s okx
  rw [h.may] at hMx
  have hRx := role30_P G s s.h okx.1
  have hLx := least30_P G s h.may
  rw [h.least] at hLx
  have hho := holds h.may
  have hql : (pcs s.q).length = due.length := by rw [pcs_len]; exact (core_len h.due).symm
  by_cases h0 : s.h = 0
  · rw [h0] at hRx x6
    have hnx := hnext s (due) (a) (P) h hP ha
    generalize sC s = scs at *
    (sym => simp [Qc,Qd,Qe,Qf,Qg,Qi,Qj,Qm,Qn,Qo,Qr,Qt,Qu,Qv,Q4,Q5,Xa,Xd,Xp,Xs,Xy,X5,X8,X9,Ya,Yc,Yg,Yh,Yr,Ys,Yt,Yu,Yv,Yy,Y9,Za,Zb,Zc,Zd,Ze,Zg,Zh,Zk,Zl,Zm,Zn,Zo,Zt,Zv,Zw,Zx,Zy,Zz,Z0,Z1,Z3,Ja,Jb,Jj,Jk,Jn,Jo,Jr,Js,Jv,J1,J2,Ue,Uf,Ug,Ul,Us,Ut,Ux,U0,U4,U5,U6,U7,Vb,Ve,Vk,Vm,Vo,Vp,Vq,Vr,Vs,Vt,Vu,Vv,Vw,Vx,Vy,Vz,V0,V3,V6,Wd,We,Hh,Hi,Hk,Hl,Ho,Hp,Hq,Hr,Hs,Ht,Hu,Hv,Hw,H1,H4,H5,H6,Ne,Ni,Nk,Nl,Nm,No,Nu,Nw,Nx,N0,Be,q8R0.eq_1,q8R1.eq_1,q8R2.eq_1,q8R3.eq_1,q8R4.eq_1,q8R5.eq_1,q8R6.eq_1,q8R7.eq_1,q8R8.eq_1,q8R10.eq_1,q8R11.eq_1,q8R12.eq_1,q8R13.eq_1,q8R14.eq_1,q8R15.eq_1,q8R16.eq_1,q8R17.eq_1,q8R18.eq_1,q8R19.eq_1,q8R20.eq_1,q8R21.eq_1,q8R23.eq_1,q8R24.eq_1,q8R22.eq_1,q8R25.eq_1,q8R26.eq_1,q8R27.eq_1,q8R28.eq_1,q8R29.eq_1,q8R30.eq_1,q8R31.eq_1,q8R32.eq_1,q8R33.eq_1,q8R34.eq_1,q8R35.eq_1,q8R36.eq_1,q8R38.eq_1,q8R39.eq_1,q8R37.eq_1,q8R40.eq_1,q8R41.eq_1,q8R42.eq_1,q8R43.eq_1,q8R44.eq_1,q8R45.eq_1,q8R46.eq_1,q8R47.eq_1,q8R9.eq_1,q8R48.eq_1,c_law30_SessionRights.eq_1,c_law30_SessionRights_L0.eq_1,hil,hg,hln,hw,hbl,g1,g2,g3,a1,a2,a3,a4,a5,List.append_nil,k0,k1,k2,k3,k4,x1,x2,x3,x4,x5,x6,x7,hMx,hRx,hLx,hql,h0]; tactic => (
      refine hnx _ ?_
      (sym => simp [Qc,Qd,Qe,Qf,Qg,Qi,Qj,Qm,Qn,Qo,Qr,Qt,Qu,Qv,Q4,Q5,Xa,Xd,Xp,Xs,Xy,X5,X8,X9,Ya,Yc,Yg,Yh,Yr,Ys,Yt,Yu,Yv,Yy,Y9,Za,Zb,Zc,Zd,Ze,Zg,Zh,Zk,Zl,Zm,Zn,Zo,Zt,Zv,Zw,Zx,Zy,Zz,Z0,Z1,Z3,Ja,Jb,Jj,Jk,Jn,Jo,Jr,Js,Jv,J1,J2,Ue,Uf,Ug,Ul,Us,Ut,Ux,U0,U4,U5,U6,U7,Vb,Ve,Vk,Vm,Vo,Vp,Vq,Vr,Vs,Vt,Vu,Vv,Vw,Vx,Vy,Vz,V0,V3,V6,Wd,We,Hh,Hi,Hk,Hl,Ho,Hp,Hq,Hr,Hs,Ht,Hu,Hv,Hw,H1,H4,H5,H6,Ne,Ni,Nk,Nl,Nm,No,Nu,Nw,Nx,N0,Be,x5,a5,List.append_nil])))
  · have hro := hho h0
    rw [hro] at hRx
    have hnx := hnext s (due) (a) (P) h hP ha
    generalize sC s = scs at *
    (sym => simp [Qc,Qd,Qe,Qf,Qg,Qi,Qj,Qm,Qn,Qo,Qr,Qt,Qu,Qv,Q4,Q5,Xa,Xd,Xp,Xs,Xy,X5,X8,X9,Ya,Yc,Yg,Yh,Yr,Ys,Yt,Yu,Yv,Yy,Y9,Za,Zb,Zc,Zd,Ze,Zg,Zh,Zk,Zl,Zm,Zn,Zo,Zt,Zv,Zw,Zx,Zy,Zz,Z0,Z1,Z3,Ja,Jb,Jj,Jk,Jn,Jo,Jr,Js,Jv,J1,J2,Ue,Uf,Ug,Ul,Us,Ut,Ux,U0,U4,U5,U6,U7,Vb,Ve,Vk,Vm,Vo,Vp,Vq,Vr,Vs,Vt,Vu,Vv,Vw,Vx,Vy,Vz,V0,V3,V6,Wd,We,Hh,Hi,Hk,Hl,Ho,Hp,Hq,Hr,Hs,Ht,Hu,Hv,Hw,H1,H4,H5,H6,Ne,Ni,Nk,Nl,Nm,No,Nu,Nw,Nx,N0,Be,q8R0.eq_1,q8R1.eq_1,q8R2.eq_1,q8R3.eq_1,q8R4.eq_1,q8R5.eq_1,q8R6.eq_1,q8R7.eq_1,q8R8.eq_1,q8R10.eq_1,q8R11.eq_1,q8R12.eq_1,q8R13.eq_1,q8R14.eq_1,q8R15.eq_1,q8R16.eq_1,q8R17.eq_1,q8R18.eq_1,q8R19.eq_1,q8R20.eq_1,q8R21.eq_1,q8R23.eq_1,q8R24.eq_1,q8R22.eq_1,q8R25.eq_1,q8R26.eq_1,q8R27.eq_1,q8R28.eq_1,q8R29.eq_1,q8R30.eq_1,q8R31.eq_1,q8R32.eq_1,q8R33.eq_1,q8R34.eq_1,q8R35.eq_1,q8R36.eq_1,q8R38.eq_1,q8R39.eq_1,q8R37.eq_1,q8R40.eq_1,q8R41.eq_1,q8R42.eq_1,q8R43.eq_1,q8R44.eq_1,q8R45.eq_1,q8R46.eq_1,q8R47.eq_1,q8R9.eq_1,q8R48.eq_1,c_law30_SessionRights.eq_1,c_law30_SessionRights_L0.eq_1,hil,hg,hln,hw,hbl,g1,g2,g3,a1,a2,a3,a4,a5,List.append_nil,k0,k1,k2,k3,k4,x1,x2,x3,x4,x5,x6,x7,hMx,hRx,hLx,hql,h0]; tactic => (
      refine hnx _ ?_
      (sym => simp [Qc,Qd,Qe,Qf,Qg,Qi,Qj,Qm,Qn,Qo,Qr,Qt,Qu,Qv,Q4,Q5,Xa,Xd,Xp,Xs,Xy,X5,X8,X9,Ya,Yc,Yg,Yh,Yr,Ys,Yt,Yu,Yv,Yy,Y9,Za,Zb,Zc,Zd,Ze,Zg,Zh,Zk,Zl,Zm,Zn,Zo,Zt,Zv,Zw,Zx,Zy,Zz,Z0,Z1,Z3,Ja,Jb,Jj,Jk,Jn,Jo,Jr,Js,Jv,J1,J2,Ue,Uf,Ug,Ul,Us,Ut,Ux,U0,U4,U5,U6,U7,Vb,Ve,Vk,Vm,Vo,Vp,Vq,Vr,Vs,Vt,Vu,Vv,Vw,Vx,Vy,Vz,V0,V3,V6,Wd,We,Hh,Hi,Hk,Hl,Ho,Hp,Hq,Hr,Hs,Ht,Hu,Hv,Hw,H1,H4,H5,H6,Ne,Ni,Nk,Nl,Nm,No,Nu,Nw,Nx,N0,Be,x5,a5,List.append_nil])))
end Go.Proofs.Ythcnhibjddomdaa
