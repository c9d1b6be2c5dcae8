/- The document's rosters. Conditions: as each statement says. -/
import Derived.Test.YthcnhibjddomdaaGreatRos4
import Derived.KernelRfl
set_option linter.unusedVariables false
set_option linter.unusedSimpArgs false
set_option linter.unusedSectionVars false
set_option maxRecDepth 20000
set_option maxHeartbeats 1000000
namespace Go.Proofs.YthcnhibjddomdaaGreat
open Go
variable (G : Nat → Option (List AV))
theorem list_loop (l : List (Int × Int)) (b f : Bool) (hl : l.length < 1000000) : ∀ (m i : Nat), i + m = l.length → 0 ≤ lastAt l i →
    aE G FT 0 lp_ref20_List_0 ⟨[(0, .data b 2 (mbs l) f), (1, .int .i64 0), (5, .bool true), (6, .int .i64 i)], []⟩ =
      if mayGo (lastAt l i) (l.drop i) = true then some (.exit 0, ⟨[(0, .data b 2 (mbs l) f), (1, .int .i64 0), (5, .bool true), (6, .int .i64 l.length), (12, .bool false)], []⟩) else some (.ret, ⟨[(4, .bool false)], []⟩) := by
  intro m
  induction m with
  | zero =>
    intro i hi _
    rw [lp_ref20_List_0, y_loop]
    have e : l.drop i = [] := List.drop_eq_nil_of_le (by omega)
    have ei : i = l.length := by omega
    subst ei
    have e0 : decide ((l.length : Int) < l.length) = false := by simp
    have hln := mbs_len l
    rw [e, mayGo, if_pos rfl]
    (sym => simp [Qa,Qb,Qc,Qd,Qe,Qf,Qg,Qh,Qi,Qj,Qr,Qt,Qu,Q4,Xa,Xp,Xs,Xy,X5,X6,X8,Ya,Yb,Yc,Yh,Ys,Yt,Yw,Yy,Y9,Za,Zb,Zc,Ze,Zg,Zh,Zk,Zl,Zt,Zv,Zw,Z3,Ja,Jb,Jj,Jk,Jl,Jm,Jn,Jo,Jp,Jr,Js,Jt,Ju,Jv,Ux,Uy,U0,U4,U5,Vb,Vc,Ve,Vo,Vq,Vr,Vt,Vv,Vw,Vy,Vz,V0,Hh,Hq,Hr,Hs,Hw,H1,Ne,Ni,Nk,Nl,Nm,No,Nw,Nx,Be,Bh,Bi,q19R0.eq_1,q19R1.eq_1,q19R2.eq_1,q19R3.eq_1,q19R5.eq_1,q19R6.eq_1,q19R7.eq_1,q19R8.eq_1,q19R4.eq_1,q19R9.eq_1,c_ref20_List.eq_1,c_ref20_List_L0.eq_1,e0,hln])
  | succ m ih =>
    intro i hi h0
    have hlt : i < l.length := by omega
    have hlt' : (i : Int) < l.length := by omega
    have e : l.drop i = l[i] :: l.drop (i + 1) := List.drop_eq_getElem_cons hlt
    have hw := wrap_nat (n := i) (by omega)
    have hg := mbs_at hlt
    have hln := mbs_len l
    have el : lastAt l (i + 1) = l[i].1 := by rw [lastAt, List.getD_eq_getElem?_getD, List.getElem?_eq_getElem hlt]; rfl
    have ih := ih (i + 1) (by omega)
    rw [el] at ih
    rw [e, mayGo]
    have hprev : ∀ j, i = j + 1 → (mbs l)[j]? = some [.int .i64 (lastAt l i), .int .i64 (l.getD j (0, 0)).2] := fun j hj => by
      subst hj
      have hj : j < l.length := by omega
      rw [mbs_at hj, lastAt, List.getD_eq_getElem?_getD, List.getElem?_eq_getElem hj]; rfl
    have hz : i = 0 → lastAt l i = 0 := fun h => by rw [h]; rfl
    generalize lastAt l i = last at *
    obtain ⟨x, hx⟩ : ∃ x, l[i] = x := ⟨_, rfl⟩
    rw [hx] at hg ih ⊢
    obtain ⟨a, r⟩ := x
    simp only at hg ih
    rw [lp_ref20_List_0] at ih
    rw [lp_ref20_List_0, y_loop]
    by_cases h1 : a < 1
    · have hk : okM last (a, r) = false := by rw [Bool.eq_false_iff, ne_eq, okM_iff]; simp only; omega
      rw [hk, Bool.false_and, if_neg (by simp)]
      (sym => simp [Qa,Qb,Qc,Qd,Qe,Qf,Qg,Qh,Qi,Qj,Qr,Qt,Qu,Q4,Xa,Xp,Xs,Xy,X5,X6,X8,Ya,Yb,Yc,Yh,Ys,Yt,Yw,Yy,Y9,Za,Zb,Zc,Ze,Zg,Zh,Zk,Zl,Zt,Zv,Zw,Z3,Ja,Jb,Jj,Jk,Jl,Jm,Jn,Jo,Jp,Jr,Js,Jt,Ju,Jv,Ux,Uy,U0,U4,U5,Vb,Vc,Ve,Vo,Vq,Vr,Vt,Vv,Vw,Vy,Vz,V0,Hh,Hq,Hr,Hs,Hw,H1,Ne,Ni,Nk,Nl,Nm,No,Nw,Nx,Be,Bh,Bi,q19R0.eq_1,q19R1.eq_1,q19R2.eq_1,q19R3.eq_1,q19R5.eq_1,q19R6.eq_1,q19R7.eq_1,q19R8.eq_1,q19R4.eq_1,q19R9.eq_1,c_ref20_List.eq_1,c_ref20_List_L0.eq_1,hlt',hg,hln,h1])
    by_cases h8 : 8 < a
    · have hk : okM last (a, r) = false := by rw [Bool.eq_false_iff, ne_eq, okM_iff]; simp only; omega
      rw [hk, Bool.false_and, if_neg (by simp)]
      (sym => simp [Qa,Qb,Qc,Qd,Qe,Qf,Qg,Qh,Qi,Qj,Qr,Qt,Qu,Q4,Xa,Xp,Xs,Xy,X5,X6,X8,Ya,Yb,Yc,Yh,Ys,Yt,Yw,Yy,Y9,Za,Zb,Zc,Ze,Zg,Zh,Zk,Zl,Zt,Zv,Zw,Z3,Ja,Jb,Jj,Jk,Jl,Jm,Jn,Jo,Jp,Jr,Js,Jt,Ju,Jv,Ux,Uy,U0,U4,U5,Vb,Vc,Ve,Vo,Vq,Vr,Vt,Vv,Vw,Vy,Vz,V0,Hh,Hq,Hr,Hs,Hw,H1,Ne,Ni,Nk,Nl,Nm,No,Nw,Nx,Be,Bh,Bi,q19R0.eq_1,q19R1.eq_1,q19R2.eq_1,q19R3.eq_1,q19R5.eq_1,q19R6.eq_1,q19R7.eq_1,q19R8.eq_1,q19R4.eq_1,q19R9.eq_1,c_ref20_List.eq_1,c_ref20_List_L0.eq_1,hlt',hg,hln,h1,h8])
    by_cases r1 : r < 1
    · have hk : okM last (a, r) = false := by rw [Bool.eq_false_iff, ne_eq, okM_iff]; simp only; omega
      rw [hk, Bool.false_and, if_neg (by simp)]
      (sym => simp [Qa,Qb,Qc,Qd,Qe,Qf,Qg,Qh,Qi,Qj,Qr,Qt,Qu,Q4,Xa,Xp,Xs,Xy,X5,X6,X8,Ya,Yb,Yc,Yh,Ys,Yt,Yw,Yy,Y9,Za,Zb,Zc,Ze,Zg,Zh,Zk,Zl,Zt,Zv,Zw,Z3,Ja,Jb,Jj,Jk,Jl,Jm,Jn,Jo,Jp,Jr,Js,Jt,Ju,Jv,Ux,Uy,U0,U4,U5,Vb,Vc,Ve,Vo,Vq,Vr,Vt,Vv,Vw,Vy,Vz,V0,Hh,Hq,Hr,Hs,Hw,H1,Ne,Ni,Nk,Nl,Nm,No,Nw,Nx,Be,Bh,Bi,q19R0.eq_1,q19R1.eq_1,q19R2.eq_1,q19R3.eq_1,q19R5.eq_1,q19R6.eq_1,q19R7.eq_1,q19R8.eq_1,q19R4.eq_1,q19R9.eq_1,c_ref20_List.eq_1,c_ref20_List_L0.eq_1,hlt',hg,hln,h1,h8,r1])
    by_cases r2 : 2 < r
    · have hk : okM last (a, r) = false := by rw [Bool.eq_false_iff, ne_eq, okM_iff]; simp only; omega
      rw [hk, Bool.false_and, if_neg (by simp)]
      (sym => simp [Qa,Qb,Qc,Qd,Qe,Qf,Qg,Qh,Qi,Qj,Qr,Qt,Qu,Q4,Xa,Xp,Xs,Xy,X5,X6,X8,Ya,Yb,Yc,Yh,Ys,Yt,Yw,Yy,Y9,Za,Zb,Zc,Ze,Zg,Zh,Zk,Zl,Zt,Zv,Zw,Z3,Ja,Jb,Jj,Jk,Jl,Jm,Jn,Jo,Jp,Jr,Js,Jt,Ju,Jv,Ux,Uy,U0,U4,U5,Vb,Vc,Ve,Vo,Vq,Vr,Vt,Vv,Vw,Vy,Vz,V0,Hh,Hq,Hr,Hs,Hw,H1,Ne,Ni,Nk,Nl,Nm,No,Nw,Nx,Be,Bh,Bi,q19R0.eq_1,q19R1.eq_1,q19R2.eq_1,q19R3.eq_1,q19R5.eq_1,q19R6.eq_1,q19R7.eq_1,q19R8.eq_1,q19R4.eq_1,q19R9.eq_1,c_ref20_List.eq_1,c_ref20_List_L0.eq_1,hlt',hg,hln,h1,h8,r1,r2])
    have ih := ih (by omega)
    have a0 : ¬ a = 0 := by omega
    cases i with
    | zero =>
      have hl0 : last = 0 := hz rfl
      have hlt0 : (0 : Int) < l.length := by omega
      have hw0 : IntKind.i64.wrap 1 = 1 := by decide
      have hk : okM last (a, r) = true := by rw [okM_iff]; simp only; omega
      rw [hk, Bool.true_and, ← ih]
      (sym => simp [Qa,Qb,Qc,Qd,Qe,Qf,Qg,Qh,Qi,Qj,Qr,Qt,Qu,Q4,Xa,Xp,Xs,Xy,X5,X6,X8,Ya,Yb,Yc,Yh,Ys,Yt,Yw,Yy,Y9,Za,Zb,Zc,Ze,Zg,Zh,Zk,Zl,Zt,Zv,Zw,Z3,Ja,Jb,Jj,Jk,Jl,Jm,Jn,Jo,Jp,Jr,Js,Jt,Ju,Jv,Ux,Uy,U0,U4,U5,Vb,Vc,Ve,Vo,Vq,Vr,Vt,Vv,Vw,Vy,Vz,V0,Hh,Hq,Hr,Hs,Hw,H1,Ne,Ni,Nk,Nl,Nm,No,Nw,Nx,Be,Bh,Bi,q19R0.eq_1,q19R1.eq_1,q19R2.eq_1,q19R3.eq_1,q19R5.eq_1,q19R6.eq_1,q19R7.eq_1,q19R8.eq_1,q19R4.eq_1,q19R9.eq_1,c_ref20_List.eq_1,c_ref20_List_L0.eq_1,hlt0,hg,hln,h1,h8,r1,r2,a0,hw0])
    | succ j =>
      have hp := hprev j rfl
      have i0 : (0 : Int) < ((j + 1 : Nat) : Int) := by omega
      have hj0 : IntKind.i64.wrap (((j + 1 : Nat) : Int) - 1) = (j : Int) := by rw [wrap_in _ (by omega) (by omega)]; omega
      have hjl : (j : Int) < l.length := by omega
      by_cases hla : a ≤ last
      · have hk : okM last (a, r) = false := by rw [Bool.eq_false_iff, ne_eq, okM_iff]; simp only; omega
        rw [hk, Bool.false_and, if_neg (by simp)]
        (sym => simp [Qa,Qb,Qc,Qd,Qe,Qf,Qg,Qh,Qi,Qj,Qr,Qt,Qu,Q4,Xa,Xp,Xs,Xy,X5,X6,X8,Ya,Yb,Yc,Yh,Ys,Yt,Yw,Yy,Y9,Za,Zb,Zc,Ze,Zg,Zh,Zk,Zl,Zt,Zv,Zw,Z3,Ja,Jb,Jj,Jk,Jl,Jm,Jn,Jo,Jp,Jr,Js,Jt,Ju,Jv,Ux,Uy,U0,U4,U5,Vb,Vc,Ve,Vo,Vq,Vr,Vt,Vv,Vw,Vy,Vz,V0,Hh,Hq,Hr,Hs,Hw,H1,Ne,Ni,Nk,Nl,Nm,No,Nw,Nx,Be,Bh,Bi,q19R0.eq_1,q19R1.eq_1,q19R2.eq_1,q19R3.eq_1,q19R5.eq_1,q19R6.eq_1,q19R7.eq_1,q19R8.eq_1,q19R4.eq_1,q19R9.eq_1,c_ref20_List.eq_1,c_ref20_List_L0.eq_1,hlt',hg,hln,h1,h8,r1,r2,i0,hj0,hp,hla])
      · have hk : okM last (a, r) = true := by rw [okM_iff]; simp only; omega
        rw [hk, Bool.true_and, ← ih]
        (sym => simp [Qa,Qb,Qc,Qd,Qe,Qf,Qg,Qh,Qi,Qj,Qr,Qt,Qu,Q4,Xa,Xp,Xs,Xy,X5,X6,X8,Ya,Yb,Yc,Yh,Ys,Yt,Yw,Yy,Y9,Za,Zb,Zc,Ze,Zg,Zh,Zk,Zl,Zt,Zv,Zw,Z3,Ja,Jb,Jj,Jk,Jl,Jm,Jn,Jo,Jp,Jr,Js,Jt,Ju,Jv,Ux,Uy,U0,U4,U5,Vb,Vc,Ve,Vo,Vq,Vr,Vt,Vv,Vw,Vy,Vz,V0,Hh,Hq,Hr,Hs,Hw,H1,Ne,Ni,Nk,Nl,Nm,No,Nw,Nx,Be,Bh,Bi,q19R0.eq_1,q19R1.eq_1,q19R2.eq_1,q19R3.eq_1,q19R5.eq_1,q19R6.eq_1,q19R7.eq_1,q19R8.eq_1,q19R4.eq_1,q19R9.eq_1,c_ref20_List.eq_1,c_ref20_List_L0.eq_1,hlt',hg,hln,h1,h8,r1,r2,i0,hj0,hp,hla,a0,hw])
theorem rmay26_P (l : List (Int × Int)) (b f : Bool) (hl : l.length < 1000000) : aP G FT n_ref26_May [.data b 2 (mbs l) f] = some (.bool (mayM l)) := by
  have hL : ∀ b f, aP G FT n_ref20_List [.data b 2 (mbs l) f, .int .i64 0] = some (.bool (mayM l)) := fun b f => by
    unfold aP mayM
    rw [run_ref20_List]
    have key := list_loop G l b f hl l.length 0 (by omega) (Int.le_refl _)
    simp only [List.drop_zero, Int.natCast_zero, show lastAt l 0 = 0 from rfl] at key
    cases hm : mayGo 0 l with
    | true => rw [hm, if_pos rfl] at key; (sym => simp [Qb,Qd,Qe,Qi,Qj,Qm,Qn,Qo,Qr,Xa,X8,Y1,Y5,Y7,Y9,Za,Zb,Zc,Ze,Zg,Zh,Zi,Zj,Zk,Zl,Zm,Zo,Zr,Zs,Zt,Zu,Zv,Zw,Jj,Jk,Jl,Jn,Jp,Jq,Jv,Jx,V6,V9,Wd,We,Wk,Nl,Be,q19R0.eq_1,q19R1.eq_1,q19R2.eq_1,q19R3.eq_1,q19R5.eq_1,q19R6.eq_1,q19R7.eq_1,q19R8.eq_1,q19R4.eq_1,q19R9.eq_1,c_ref20_List.eq_1,key])
    | false => rw [hm, if_neg (by simp)] at key; (sym => simp [Qb,Qd,Qe,Qi,Qj,Qm,Qn,Qo,Qr,Xa,X8,Y1,Y5,Y7,Y9,Za,Zb,Zc,Ze,Zg,Zh,Zi,Zj,Zk,Zl,Zm,Zo,Zr,Zs,Zt,Zu,Zv,Zw,Jj,Jk,Jl,Jn,Jp,Jq,Jv,Jx,V6,V9,Wd,We,Wk,Nl,Be,q19R0.eq_1,q19R1.eq_1,q19R2.eq_1,q19R3.eq_1,q19R5.eq_1,q19R6.eq_1,q19R7.eq_1,q19R8.eq_1,q19R4.eq_1,q19R9.eq_1,c_ref20_List.eq_1,key])
  unfold aP
  rw [run_ref26_May]
  (sym => simp [Qb,Qd,Qe,Qi,Qj,Qm,Qn,Qo,Qr,Xa,X8,Y1,Y5,Y7,Y9,Za,Zb,Zc,Ze,Zg,Zh,Zi,Zj,Zk,Zl,Zm,Zo,Zr,Zs,Zt,Zu,Zv,Zw,Jj,Jk,Jl,Jn,Jp,Jq,Jv,Jx,V6,V9,Wd,We,Wk,Nl,Be,q24R0.eq_1,q24R1.eq_1,c_ref26_May.eq_1,hL])
theorem rrole_loop (l : List (Int × Int)) (b f : Bool) (id : Int) (hl : l.length < 1000000) : ∀ (m i : Nat), i + m = l.length →
    (aE G FT 0 lp_ref26_Role_0 ⟨[(0, .data b 2 (mbs l) f), (1, .int .i64 id), (5, .int .i64 i)], []⟩ = some (.ret, ⟨[(4, .int .i64 (roleOf (l.drop i) id))], []⟩)) ∨
      (roleOf (l.drop i) id = 0 ∧ aE G FT 0 lp_ref26_Role_0 ⟨[(0, .data b 2 (mbs l) f), (1, .int .i64 id), (5, .int .i64 i)], []⟩ = some (.exit 0, ⟨[(0, .data b 2 (mbs l) f), (1, .int .i64 id), (5, .int .i64 l.length), (9, .bool false)], []⟩)) := by
  intro m
  induction m with
  | zero =>
    intro i hi
    right
    have e : l.drop i = [] := List.drop_eq_nil_of_le (by omega)
    refine ⟨by rw [e]; rfl, ?_⟩
    rw [lp_ref26_Role_0, y_loop]
    have ei : i = l.length := by omega
    subst ei
    have e0 : decide ((l.length : Int) < l.length) = false := by simp
    have hln := mbs_len l
    (sym => simp [Qa,Qb,Qc,Qd,Qe,Qi,Qj,Qr,Qt,Q4,Xa,Xp,Xs,Xy,X5,X8,Ya,Yh,Ys,Yt,Yw,Yy,Y9,Za,Zb,Zc,Ze,Zg,Zh,Zk,Zl,Zt,Zv,Zw,Z3,Jj,Jk,Jl,Jm,Jn,Jo,Jp,Jr,Js,Jt,Ju,Jv,Ux,U0,U4,U5,Vb,Ve,Vo,Vq,Vr,Vt,Vv,Vw,Vy,Vz,V0,Hh,Hq,Hr,Hs,Hw,H1,Ni,Nk,Nl,Nm,No,Be,q25R0.eq_1,q25R1.eq_1,q25R2.eq_1,q25R4.eq_1,q25R5.eq_1,q25R3.eq_1,q25R6.eq_1,c_ref26_Role.eq_1,c_ref26_Role_L0.eq_1,e0,hln])
  | succ m ih =>
    intro i hi
    have hlt : i < l.length := by omega
    have hlt' : (i : Int) < l.length := by omega
    have e : l.drop i = l[i] :: l.drop (i + 1) := List.drop_eq_getElem_cons hlt
    have hw := wrap_nat (n := i) (by omega)
    have hg := mbs_at hlt
    have hln := mbs_len l
    have ih := ih (i + 1) (by omega)
    rw [lp_ref26_Role_0] at ih
    rw [e, lp_ref26_Role_0, y_loop]
    by_cases hx : l[i].1 = id
    · left
      rw [roleOf, if_pos hx]
      (sym => simp [Qa,Qb,Qc,Qd,Qe,Qi,Qj,Qr,Qt,Q4,Xa,Xp,Xs,Xy,X5,X8,Ya,Yh,Ys,Yt,Yw,Yy,Y9,Za,Zb,Zc,Ze,Zg,Zh,Zk,Zl,Zt,Zv,Zw,Z3,Jj,Jk,Jl,Jm,Jn,Jo,Jp,Jr,Js,Jt,Ju,Jv,Ux,U0,U4,U5,Vb,Ve,Vo,Vq,Vr,Vt,Vv,Vw,Vy,Vz,V0,Hh,Hq,Hr,Hs,Hw,H1,Ni,Nk,Nl,Nm,No,Be,q25R0.eq_1,q25R1.eq_1,q25R2.eq_1,q25R4.eq_1,q25R5.eq_1,q25R3.eq_1,q25R6.eq_1,c_ref26_Role.eq_1,c_ref26_Role_L0.eq_1,hlt',hg,hln,hx])
    · rw [roleOf, if_neg hx]
      rcases ih with ih | ⟨ih1, ih2⟩
      · left
        rw [← ih]
        (sym => simp [Qa,Qb,Qc,Qd,Qe,Qi,Qj,Qr,Qt,Q4,Xa,Xp,Xs,Xy,X5,X8,Ya,Yh,Ys,Yt,Yw,Yy,Y9,Za,Zb,Zc,Ze,Zg,Zh,Zk,Zl,Zt,Zv,Zw,Z3,Jj,Jk,Jl,Jm,Jn,Jo,Jp,Jr,Js,Jt,Ju,Jv,Ux,U0,U4,U5,Vb,Ve,Vo,Vq,Vr,Vt,Vv,Vw,Vy,Vz,V0,Hh,Hq,Hr,Hs,Hw,H1,Ni,Nk,Nl,Nm,No,Be,q25R0.eq_1,q25R1.eq_1,q25R2.eq_1,q25R4.eq_1,q25R5.eq_1,q25R3.eq_1,q25R6.eq_1,c_ref26_Role.eq_1,c_ref26_Role_L0.eq_1,hlt',hg,hln,hx,hw])
      · right
        refine ⟨ih1, ?_⟩
        rw [← ih2]
        (sym => simp [Qa,Qb,Qc,Qd,Qe,Qi,Qj,Qr,Qt,Q4,Xa,Xp,Xs,Xy,X5,X8,Ya,Yh,Ys,Yt,Yw,Yy,Y9,Za,Zb,Zc,Ze,Zg,Zh,Zk,Zl,Zt,Zv,Zw,Z3,Jj,Jk,Jl,Jm,Jn,Jo,Jp,Jr,Js,Jt,Ju,Jv,Ux,U0,U4,U5,Vb,Ve,Vo,Vq,Vr,Vt,Vv,Vw,Vy,Vz,V0,Hh,Hq,Hr,Hs,Hw,H1,Ni,Nk,Nl,Nm,No,Be,q25R0.eq_1,q25R1.eq_1,q25R2.eq_1,q25R4.eq_1,q25R5.eq_1,q25R3.eq_1,q25R6.eq_1,c_ref26_Role.eq_1,c_ref26_Role_L0.eq_1,hlt',hg,hln,hx,hw])
theorem rrole_P (l : List (Int × Int)) (b f : Bool) (id : Int) (hl : l.length < 1000000) : aP G FT n_ref26_Role [.data b 2 (mbs l) f, .int .i64 id] = some (.int .i64 (roleOf l id)) := by
  unfold aP
  rw [run_ref26_Role]
  have key := rrole_loop G l b f id hl l.length 0 (by omega)
  simp only [List.drop_zero, Int.natCast_zero] at key
  rcases key with key | ⟨k1, key⟩
  · (sym => simp [Qb,Qd,Qe,Qj,Qr,Y1,Y5,Y7,Y9,Za,Zb,Zc,Ze,Zg,Zh,Zi,Zj,Zk,Zl,Zm,Zr,Zs,Zt,Zu,Zv,Zw,Jj,Jk,Jl,Jn,Jp,Jq,Jv,Jx,Wj,Be,q25R0.eq_1,q25R1.eq_1,q25R2.eq_1,q25R4.eq_1,q25R5.eq_1,q25R3.eq_1,q25R6.eq_1,c_ref26_Role.eq_1,key])
  · rw [k1]; (sym => simp [Qb,Qd,Qe,Qj,Qr,Y1,Y5,Y7,Y9,Za,Zb,Zc,Ze,Zg,Zh,Zi,Zj,Zk,Zl,Zm,Zr,Zs,Zt,Zu,Zv,Zw,Jj,Jk,Jl,Jn,Jp,Jq,Jv,Jx,Wj,Be,q25R0.eq_1,q25R1.eq_1,q25R2.eq_1,q25R4.eq_1,q25R5.eq_1,q25R3.eq_1,q25R6.eq_1,c_ref26_Role.eq_1,key])
theorem there_role {l : List (Int × Int)} (hm : mayM l = true) (id : Int) : thereB l id = decide (roleOf l id ≠ 0) := by
  rw [thereB, hm, Bool.true_and]
  by_cases h : idB id = true
  · rw [h, Bool.true_and]
  · have h' : idB id = false := by simpa using h
    rw [h', Bool.false_and]
    have : roleOf l id = 0 := by
      rw [idB] at h
      simp only [Bool.and_eq_true, decide_eq_true_eq] at h
      by_cases h1 : 1 ≤ id
      · exact roleOf_hi l 0 hm id (by omega)
      · exact roleOf_low l 0 hm id (by omega)
    simp [this]
section
variable (q1 q2 : List (Int × Int)) (b1 f1 b2 f2 : Bool) (hl : q1.length = q2.length) (hb : q1.length < 1000000)
include hl hb
theorem same26_loop : ∀ (m i : Nat), i + m = q1.length →
    aE G FT 0 lp_ref26_Same_0 ⟨[(0, .data b1 2 (mbs q1) f1), (1, .data b2 2 (mbs q2) f2), (5, .int .i64 i)], []⟩ =
      if q1.drop i = q2.drop i then some (.exit 0, ⟨[(0, .data b1 2 (mbs q1) f1), (1, .data b2 2 (mbs q2) f2), (5, .int .i64 q1.length), (14, .bool false)], []⟩) else some (.ret, ⟨[(4, .bool false)], []⟩) := by
  intro m
  induction m with
  | zero =>
    intro i hi
    obtain rfl : i = q1.length := by omega
    rw [lp_ref26_Same_0, y_loop, if_pos (by rw [List.drop_length, hl, List.drop_length])]
    have h4 : ¬ (q1.length : Int) < q1.length := by omega
    (sym => simp [Qa,Qb,Qc,Qd,Qe,Qi,Qj,Qr,Qt,Q4,Xa,Xb,Xs,Xy,X5,Ya,Yh,Ys,Yu,Yy,Y9,Za,Zb,Zc,Ze,Zg,Zh,Zk,Zl,Zm,Zn,Zt,Zv,Zw,Z3,Jg,Jj,Jk,Jl,Jm,Jn,Jo,Jp,Jr,Js,Jt,Ju,Jv,Kh,Kk,Kl,Km,Ux,U0,U4,U5,Vb,Ve,Vo,Vq,Vr,Vt,Vv,Vw,Vy,Vz,V0,Ho,Hq,Hs,Hw,H1,Ni,Nk,Nl,Nm,No,Nq,Nr,Nw,Nx,Be,q26R0.eq_1,q26R1.eq_1,q26R2.eq_1,q26R3.eq_1,q26R4.eq_1,q26R6.eq_1,q26R7.eq_1,q26R5.eq_1,q26R8.eq_1,c_ref26_Same.eq_1,c_ref26_Same_L0.eq_1,h4,mbs_len])
  | succ m ih =>
    intro i hi
    have ih := ih (i + 1) (by omega)
    have hlt : i < q1.length := by omega
    have hlt2 : i < q2.length := by omega
    have h4 : (i : Int) < q1.length := by omega
    have h5 : (i : Int) < q2.length := by omega
    have g1 := mbs_at hlt
    have g2 := mbs_at hlt2
    have e1 : q1.drop i = q1[i] :: q1.drop (i + 1) := List.drop_eq_getElem_cons hlt
    have e2 : q2.drop i = q2[i] :: q2.drop (i + 1) := List.drop_eq_getElem_cons hlt2
    have hw := wrap_nat (n := i) (by omega)
    rw [lp_ref26_Same_0] at ih
    rw [lp_ref26_Same_0, y_loop, e1, e2]
    generalize q1[i] = x at g1 e1 ⊢
    generalize q2[i] = y at g2 e2 ⊢
    obtain ⟨a, r⟩ := x
    obtain ⟨a2, r2⟩ := y
    simp only at g1 g2
    by_cases ha : a = a2
    · by_cases hr : r = r2
      · subst ha hr
        simp only [List.cons.injEq, true_and]
        rw [← ih]
        (sym => simp [Qa,Qb,Qc,Qd,Qe,Qi,Qj,Qr,Qt,Q4,Xa,Xb,Xs,Xy,X5,Ya,Yh,Ys,Yu,Yy,Y9,Za,Zb,Zc,Ze,Zg,Zh,Zk,Zl,Zm,Zn,Zt,Zv,Zw,Z3,Jg,Jj,Jk,Jl,Jm,Jn,Jo,Jp,Jr,Js,Jt,Ju,Jv,Kh,Kk,Kl,Km,Ux,U0,U4,U5,Vb,Ve,Vo,Vq,Vr,Vt,Vv,Vw,Vy,Vz,V0,Ho,Hq,Hs,Hw,H1,Ni,Nk,Nl,Nm,No,Nq,Nr,Nw,Nx,Be,q26R0.eq_1,q26R1.eq_1,q26R2.eq_1,q26R3.eq_1,q26R4.eq_1,q26R6.eq_1,q26R7.eq_1,q26R5.eq_1,q26R8.eq_1,c_ref26_Same.eq_1,c_ref26_Same_L0.eq_1,h4,h5,mbs_len,g1,g2,hw])
      · rw [if_neg (fun h => hr (congrArg Prod.snd (List.cons.inj h).1))]
        (sym => simp [Qa,Qb,Qc,Qd,Qe,Qi,Qj,Qr,Qt,Q4,Xa,Xb,Xs,Xy,X5,Ya,Yh,Ys,Yu,Yy,Y9,Za,Zb,Zc,Ze,Zg,Zh,Zk,Zl,Zm,Zn,Zt,Zv,Zw,Z3,Jg,Jj,Jk,Jl,Jm,Jn,Jo,Jp,Jr,Js,Jt,Ju,Jv,Kh,Kk,Kl,Km,Ux,U0,U4,U5,Vb,Ve,Vo,Vq,Vr,Vt,Vv,Vw,Vy,Vz,V0,Ho,Hq,Hs,Hw,H1,Ni,Nk,Nl,Nm,No,Nq,Nr,Nw,Nx,Be,q26R0.eq_1,q26R1.eq_1,q26R2.eq_1,q26R3.eq_1,q26R4.eq_1,q26R6.eq_1,q26R7.eq_1,q26R5.eq_1,q26R8.eq_1,c_ref26_Same.eq_1,c_ref26_Same_L0.eq_1,h4,h5,mbs_len,g1,g2,ha,hr,hw])
    · rw [if_neg (fun h => ha (congrArg Prod.fst (List.cons.inj h).1))]
      (sym => simp [Qa,Qb,Qc,Qd,Qe,Qi,Qj,Qr,Qt,Q4,Xa,Xb,Xs,Xy,X5,Ya,Yh,Ys,Yu,Yy,Y9,Za,Zb,Zc,Ze,Zg,Zh,Zk,Zl,Zm,Zn,Zt,Zv,Zw,Z3,Jg,Jj,Jk,Jl,Jm,Jn,Jo,Jp,Jr,Js,Jt,Ju,Jv,Kh,Kk,Kl,Km,Ux,U0,U4,U5,Vb,Ve,Vo,Vq,Vr,Vt,Vv,Vw,Vy,Vz,V0,Ho,Hq,Hs,Hw,H1,Ni,Nk,Nl,Nm,No,Nq,Nr,Nw,Nx,Be,q26R0.eq_1,q26R1.eq_1,q26R2.eq_1,q26R3.eq_1,q26R4.eq_1,q26R6.eq_1,q26R7.eq_1,q26R5.eq_1,q26R8.eq_1,c_ref26_Same.eq_1,c_ref26_Same_L0.eq_1,h4,h5,mbs_len,g1,g2,ha,hw])
end
theorem same26_P (q1 q2 : List (Int × Int)) (b1 f1 b2 f2 : Bool) (hb : q1.length < 1000000) : aP G FT n_ref26_Same [.data b1 2 (mbs q1) f1, .data b2 2 (mbs q2) f2] = some (.bool (decide (q1 = q2))) := by
  unfold aP
  rw [run_ref26_Same]
  by_cases hl : q1.length = q2.length
  · have key := same26_loop G q1 q2 b1 f1 b2 f2 hl hb q1.length 0 (by omega)
    simp only [List.drop_zero, Int.natCast_zero] at key
    have hl2 : ((q1.length : Int) = q2.length) := by omega
    by_cases hq : q1 = q2
    · rw [if_pos hq] at key
      have hd : decide (q1 = q2) = true := by simp [hq]
      rw [hd]
      (sym => simp [Qb,Qc,Qd,Qe,Qi,Qj,Qr,Qt,Xa,Xy,X9,Yh,Y1,Y5,Y7,Y9,Za,Zb,Zc,Ze,Zg,Zh,Zi,Zj,Zk,Zl,Zm,Zr,Zs,Zt,Zu,Zv,Zw,Z3,Jj,Jk,Jl,Jn,Jp,Jq,Jr,Jv,Jx,Wk,Nl,Nm,Nw,Nx,Be,q26R0.eq_1,q26R1.eq_1,q26R2.eq_1,q26R3.eq_1,q26R4.eq_1,q26R6.eq_1,q26R7.eq_1,q26R5.eq_1,q26R8.eq_1,c_ref26_Same.eq_1,key,mbs_len,hl2])
    · rw [if_neg hq] at key
      have hd : decide (q1 = q2) = false := by simp [hq]
      rw [hd]
      (sym => simp [Qb,Qc,Qd,Qe,Qi,Qj,Qr,Qt,Xa,Xy,X9,Yh,Y1,Y5,Y7,Y9,Za,Zb,Zc,Ze,Zg,Zh,Zi,Zj,Zk,Zl,Zm,Zr,Zs,Zt,Zu,Zv,Zw,Z3,Jj,Jk,Jl,Jn,Jp,Jq,Jr,Jv,Jx,Wk,Nl,Nm,Nw,Nx,Be,q26R0.eq_1,q26R1.eq_1,q26R2.eq_1,q26R3.eq_1,q26R4.eq_1,q26R6.eq_1,q26R7.eq_1,q26R5.eq_1,q26R8.eq_1,c_ref26_Same.eq_1,key,mbs_len,hl2])
  · have hd : decide (q1 = q2) = false := by simp; intro h; exact hl (by rw [h])
    rw [hd]
    have hl2 : ¬ ((q1.length : Int) = q2.length) := by omega
    (sym => simp [Qb,Qc,Qd,Qe,Qi,Qj,Qr,Qt,Xa,Xy,X9,Yh,Y1,Y5,Y7,Y9,Za,Zb,Zc,Ze,Zg,Zh,Zi,Zj,Zk,Zl,Zm,Zr,Zs,Zt,Zu,Zv,Zw,Z3,Jj,Jk,Jl,Jn,Jp,Jq,Jr,Jv,Jx,Wk,Nl,Nm,Nw,Nx,Be,q26R0.eq_1,q26R1.eq_1,q26R2.eq_1,q26R3.eq_1,q26R4.eq_1,q26R6.eq_1,q26R7.eq_1,q26R5.eq_1,q26R8.eq_1,c_ref26_Same.eq_1,mbs_len,hl2])
end Go.Proofs.YthcnhibjddomdaaGreat
