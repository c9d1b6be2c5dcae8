/- Queues: plain laws; great, known. Conditions: as each statement says. -/
import Derived.Test.YtfnonledcniojaaMg1
import Derived.KernelRfl
set_option linter.unusedVariables false
set_option linter.unusedSimpArgs false
set_option linter.unusedSectionVars false
set_option maxRecDepth 20000
set_option maxHeartbeats 1000000
namespace Go.Proofs.Ytfnonledcniojaa
open Go
variable (G : Nat → Option (List AV))
def pcB (x : Pc) : Bool := pieceB x.1 x.2.1 x.2.2.1.length
theorem sizeQ_cons (x : Pc) (q : List Pc) : sizeQ (x :: q) = x.2.2.1.length + sizeQ q := by simp [sizeQ]
theorem sizeQ_app (a b : List Pc) : sizeQ (a ++ b) = sizeQ a + sizeQ b := by simp [sizeQ]
theorem mayQ_iff : ∀ (q : List Pc) (n : Int), n ≤ 64 → (mayQ n q = true ↔ (∀ x ∈ q, pcB x = true) ∧ n + sizeQ q ≤ 64)
  | [], n, h => by simp [mayQ, sizeQ]; omega
  | x :: q, n, h => by
    rw [mayQ, Bool.and_eq_true, Bool.and_eq_true, decide_eq_true_eq, sizeQ_cons]
    constructor
    · rintro ⟨⟨h1, h2⟩, h3⟩
      obtain ⟨h4, h5⟩ := (mayQ_iff q _ h2).1 h3
      refine ⟨fun y hy => ?_, by omega⟩
      rcases List.mem_cons.1 hy with rfl | hy
      · exact h1
      · exact h4 y hy
    · rintro ⟨h1, h2⟩
      have h3 : n + x.2.2.1.length ≤ 64 := by omega
      exact ⟨⟨h1 x (List.mem_cons_self ..), h3⟩, (mayQ_iff q _ h3).2 ⟨fun y hy => h1 y (List.mem_cons_of_mem _ hy), by omega⟩⟩
theorem may0_iff (q : List Pc) : mayQ 0 q = true ↔ (∀ x ∈ q, pcB x = true) ∧ sizeQ q ≤ 64 := by
  rw [mayQ_iff q 0 (by omega)]; constructor <;> rintro ⟨h1, h2⟩ <;> exact ⟨h1, by omega⟩
theorem sizeQ_split (q : List Pc) (k : Nat) : sizeQ (q.take k) + sizeQ (q.drop k) = sizeQ q := by rw [← sizeQ_app, List.take_append_drop]
/-! ### great -/
def greatQ (q : List Pc) : Bool := decide (100 < q.length) || q.any fun x => decide (100 < x.2.2.1.length)
theorem great_loop (q : List Pc) (b f : Bool) (hl : q.length ≤ 100) : ∀ (m i : Nat), i + m = q.length →
    aE G FT 0 lp_law28_great_0 ⟨[(0, .data b 3 (pcs q) f), (3, .int .i64 i)], []⟩ = if ((q.drop i).any fun x => decide (100 < x.2.2.1.length)) = true then some (.ret, ⟨[(2, .bool true)], []⟩) else some (.exit 0, ⟨[(0, .data b 3 (pcs q) f), (3, .int .i64 q.length), (10, .bool false)], []⟩) := by
  intro m
  induction m with
  | zero =>
    intro i hi
    rw [lp_law28_great_0, y_loop]
    have e : q.drop i = [] := List.drop_eq_nil_of_le (by omega)
    have ei : i = q.length := by omega
    subst ei
    have e0 : decide ((q.length : Int) < q.length) = false := by simp
    have hln := pcs_len q
    rw [e, List.any_nil, if_neg (by simp)]
    (sym => simp [Qa,Qb,Qc,Qd,Qe,Qi,Qj,Qr,Qt,Q4,Xa,Xp,Xs,Xy,X5,Ya,Yc,Yh,Ys,Yt,Yw,Yy,Y9,Za,Zb,Zc,Ze,Zg,Zh,Zk,Zl,Zt,Zv,Zw,Z3,Jj,Jk,Jl,Jm,Jn,Jo,Jp,Jr,Js,Jt,Ju,Jv,Ux,U0,U4,U5,Vb,Ve,Vo,Vq,Vr,Vt,Vv,Vw,Vy,Vz,V0,Hh,Hq,Hr,Hs,Hw,H1,Ni,Nk,Nl,Nm,No,Be,Ma,Mb,Md,Me,Mf,q16R0.eq_1,q16R1.eq_1,q16R2.eq_1,q16R3.eq_1,q16R4.eq_1,q16R6.eq_1,q16R7.eq_1,q16R5.eq_1,q16R8.eq_1,c_law28_great.eq_1,c_law28_great_L0.eq_1,e0,hln])
  | succ m ih =>
    intro i hi
    have hlt : i < q.length := by omega
    have hlt' : (i : Int) < q.length := by omega
    have hw := wrap_nat (n := i) (by omega)
    have hg := pcs_at hlt
    have hln := pcs_len q
    have hbl := byt_len q[i].2.2.1
    have e : q.drop i = q[i] :: q.drop (i + 1) := List.drop_eq_getElem_cons hlt
    have ih := ih (i + 1) (by omega)
    rw [lp_law28_great_0] at ih
    rw [e, List.any_cons, lp_law28_great_0, y_loop]
    by_cases hx : 100 < q[i].2.2.1.length
    · have hx' : (100 : Int) < q[i].2.2.1.length := by omega
      rw [if_pos (by simp [hx])]
      (sym => simp [Qa,Qb,Qc,Qd,Qe,Qi,Qj,Qr,Qt,Q4,Xa,Xp,Xs,Xy,X5,Ya,Yc,Yh,Ys,Yt,Yw,Yy,Y9,Za,Zb,Zc,Ze,Zg,Zh,Zk,Zl,Zt,Zv,Zw,Z3,Jj,Jk,Jl,Jm,Jn,Jo,Jp,Jr,Js,Jt,Ju,Jv,Ux,U0,U4,U5,Vb,Ve,Vo,Vq,Vr,Vt,Vv,Vw,Vy,Vz,V0,Hh,Hq,Hr,Hs,Hw,H1,Ni,Nk,Nl,Nm,No,Be,Ma,Mb,Md,Me,Mf,q16R0.eq_1,q16R1.eq_1,q16R2.eq_1,q16R3.eq_1,q16R4.eq_1,q16R6.eq_1,q16R7.eq_1,q16R5.eq_1,q16R8.eq_1,c_law28_great.eq_1,c_law28_great_L0.eq_1,hlt',hg,hln,hbl,hx'])
    · have hx' : ¬ (100 : Int) < q[i].2.2.1.length := by omega
      simp only [hx, decide_false, Bool.false_or]
      rw [← ih]
      (sym => simp [Qa,Qb,Qc,Qd,Qe,Qi,Qj,Qr,Qt,Q4,Xa,Xp,Xs,Xy,X5,Ya,Yc,Yh,Ys,Yt,Yw,Yy,Y9,Za,Zb,Zc,Ze,Zg,Zh,Zk,Zl,Zt,Zv,Zw,Z3,Jj,Jk,Jl,Jm,Jn,Jo,Jp,Jr,Js,Jt,Ju,Jv,Ux,U0,U4,U5,Vb,Ve,Vo,Vq,Vr,Vt,Vv,Vw,Vy,Vz,V0,Hh,Hq,Hr,Hs,Hw,H1,Ni,Nk,Nl,Nm,No,Be,Ma,Mb,Md,Me,Mf,q16R0.eq_1,q16R1.eq_1,q16R2.eq_1,q16R3.eq_1,q16R4.eq_1,q16R6.eq_1,q16R7.eq_1,q16R5.eq_1,q16R8.eq_1,c_law28_great.eq_1,c_law28_great_L0.eq_1,hlt',hg,hln,hbl,hx',hw])
theorem great_P (q : List Pc) (b f : Bool) : aP G FT n_law28_great [.data b 3 (pcs q) f] = some (.bool (greatQ q)) := by
  have hln := pcs_len q
  unfold aP greatQ
  rw [run_law28_great]
  by_cases hq : 100 < q.length
  · have hq' : (100 : Int) < q.length := by omega
    rw [decide_eq_true hq, Bool.true_or]
    (sym => simp [Qb,Qc,Qd,Qe,Qi,Qj,Qr,Qt,Xa,Xy,Yc,Yh,Y1,Y5,Y7,Y9,Za,Zb,Zc,Ze,Zg,Zh,Zi,Zj,Zk,Zl,Zm,Zr,Zs,Zt,Zu,Zv,Zw,Z3,Jj,Jk,Jl,Jn,Jp,Jq,Jr,Jv,Jx,Wk,Nl,Nm,Be,q16R0.eq_1,q16R1.eq_1,q16R2.eq_1,q16R3.eq_1,q16R4.eq_1,q16R6.eq_1,q16R7.eq_1,q16R5.eq_1,q16R8.eq_1,c_law28_great.eq_1,hln,hq'])
  · have hq' : ¬ (100 : Int) < q.length := by omega
    have key := great_loop G q b f (by omega) q.length 0 (by omega)
    simp only [List.drop_zero, Int.natCast_zero] at key
    rw [decide_eq_false hq, Bool.false_or]
    cases hg : q.any fun x => decide (100 < x.2.2.1.length) with
    | true => rw [hg, if_pos rfl] at key; (sym => simp [Qb,Qc,Qd,Qe,Qi,Qj,Qr,Qt,Xa,Xy,Yc,Yh,Y1,Y5,Y7,Y9,Za,Zb,Zc,Ze,Zg,Zh,Zi,Zj,Zk,Zl,Zm,Zr,Zs,Zt,Zu,Zv,Zw,Z3,Jj,Jk,Jl,Jn,Jp,Jq,Jr,Jv,Jx,Wk,Nl,Nm,Be,q16R0.eq_1,q16R1.eq_1,q16R2.eq_1,q16R3.eq_1,q16R4.eq_1,q16R6.eq_1,q16R7.eq_1,q16R5.eq_1,q16R8.eq_1,c_law28_great.eq_1,hln,hq',key])
    | false => rw [hg, if_neg (by simp)] at key; (sym => simp [Qb,Qc,Qd,Qe,Qi,Qj,Qr,Qt,Xa,Xy,Yc,Yh,Y1,Y5,Y7,Y9,Za,Zb,Zc,Ze,Zg,Zh,Zi,Zj,Zk,Zl,Zm,Zr,Zs,Zt,Zu,Zv,Zw,Z3,Jj,Jk,Jl,Jn,Jp,Jq,Jr,Jv,Jx,Wk,Nl,Nm,Be,q16R0.eq_1,q16R1.eq_1,q16R2.eq_1,q16R3.eq_1,q16R4.eq_1,q16R6.eq_1,q16R7.eq_1,q16R5.eq_1,q16R8.eq_1,c_law28_great.eq_1,hln,hq',key])
theorem great_ok {q : List Pc} (h : greatQ q = false) : q.length ≤ 100 ∧ okL q := by
  simp only [greatQ, Bool.or_eq_false_iff, decide_eq_false_iff_not, List.any_eq_false, decide_eq_true_eq] at h
  obtain ⟨h1, h2⟩ := h
  exact ⟨by omega, by omega, fun x hx => by have := h2 x hx; omega⟩
set_option maxRecDepth 100000 in
theorem known28_P : aP G FT n_law28_known [] = some (.bool true) := aP_fuel 60 (by kernel_rfl)
end Go.Proofs.Ytfnonledcniojaa
