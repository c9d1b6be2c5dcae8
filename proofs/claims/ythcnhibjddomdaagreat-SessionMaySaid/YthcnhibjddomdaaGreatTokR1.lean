/- What the document's token functions come to. Conditions: as each statement says. -/
import Derived.Test.YthcnhibjddomdaaGreatTokP
set_option linter.unusedVariables false
set_option linter.unusedSimpArgs false
set_option linter.unusedSectionVars false
set_option maxRecDepth 20000
set_option maxHeartbeats 1000000
namespace Go.Proofs.YthcnhibjddomdaaGreat
open Go
variable (G : Nat → Option (List AV))
theorem has_loop (l : List Int) (b f : Bool) (x : Int) (hl : l.length < 9223372036854775807) : ∀ (m i : Nat), i + m = l.length →
    aE G FT 0 lp_ref27_Has_0 ⟨[(0, .data b 1 (ints l) f), (1, .int .i64 x), (5, .int .i64 i)], []⟩ =
      if x ∈ l.drop i then some (.ret, ⟨[(4, .bool true)], []⟩) else some (.exit 0, ⟨[(0, .data b 1 (ints l) f), (1, .int .i64 x), (5, .int .i64 l.length), (9, .bool false)], []⟩) := by
  intro m
  induction m with
  | zero =>
    intro i hi
    rw [lp_ref27_Has_0, y_loop]
    have e : l.drop i = [] := List.drop_eq_nil_of_le (by omega)
    have ei : i = l.length := by omega
    subst ei
    have e0 : decide ((l.length : Int) < l.length) = false := by simp
    have hln := ints_len l
    rw [e, if_neg (by simp)]
    (sym => simp [Qa,Qb,Qc,Qd,Qe,Qi,Qj,Qr,Qt,Q4,Xa,Xs,Xy,X5,X8,Ya,Yh,Ys,Yt,Yy,Y9,Za,Zb,Zc,Ze,Zg,Zh,Zk,Zl,Zt,Zv,Zw,Z3,Jj,Jk,Jl,Jm,Jn,Jo,Jp,Jr,Js,Jt,Ju,Jv,Ux,U0,U4,U5,Vb,Ve,Vo,Vq,Vr,Vt,Vv,Vw,Vy,Vz,V0,Hh,Hq,Hw,H1,Ni,Nk,Nl,Nm,No,Be,q31R0.eq_1,q31R1.eq_1,q31R2.eq_1,q31R4.eq_1,q31R5.eq_1,q31R3.eq_1,q31R6.eq_1,c_ref27_Has.eq_1,c_ref27_Has_L0.eq_1,e0,hln])
  | succ m ih =>
    intro i hi
    have ih := ih (i + 1) (by omega)
    rw [lp_ref27_Has_0] at ih
    rw [lp_ref27_Has_0, y_loop]
    have hlt : i < l.length := by omega
    have hlt' : (i : Int) < l.length := by omega
    have e : l.drop i = l[i] :: l.drop (i + 1) := List.drop_eq_getElem_cons hlt
    have hw := wrap_nat (n := i) (by omega)
    have hg := ints_at hlt
    have hln := ints_len l
    rw [e]
    by_cases hx : l[i] = x
    · rw [if_pos (by simp [hx])]
      (sym => simp [Qa,Qb,Qc,Qd,Qe,Qi,Qj,Qr,Qt,Q4,Xa,Xs,Xy,X5,X8,Ya,Yh,Ys,Yt,Yy,Y9,Za,Zb,Zc,Ze,Zg,Zh,Zk,Zl,Zt,Zv,Zw,Z3,Jj,Jk,Jl,Jm,Jn,Jo,Jp,Jr,Js,Jt,Ju,Jv,Ux,U0,U4,U5,Vb,Ve,Vo,Vq,Vr,Vt,Vv,Vw,Vy,Vz,V0,Hh,Hq,Hw,H1,Ni,Nk,Nl,Nm,No,Be,q31R0.eq_1,q31R1.eq_1,q31R2.eq_1,q31R4.eq_1,q31R5.eq_1,q31R3.eq_1,q31R6.eq_1,c_ref27_Has.eq_1,c_ref27_Has_L0.eq_1,hlt',hg,hln,hx,hw])
    · have hx' : ¬ x = l[i] := fun h => hx h.symm
      by_cases hm : x ∈ l.drop (i + 1)
      · rw [if_pos hm] at ih
        rw [if_pos (List.mem_cons_of_mem _ hm), ← ih]
        (sym => simp [Qa,Qb,Qc,Qd,Qe,Qi,Qj,Qr,Qt,Q4,Xa,Xs,Xy,X5,X8,Ya,Yh,Ys,Yt,Yy,Y9,Za,Zb,Zc,Ze,Zg,Zh,Zk,Zl,Zt,Zv,Zw,Z3,Jj,Jk,Jl,Jm,Jn,Jo,Jp,Jr,Js,Jt,Ju,Jv,Ux,U0,U4,U5,Vb,Ve,Vo,Vq,Vr,Vt,Vv,Vw,Vy,Vz,V0,Hh,Hq,Hw,H1,Ni,Nk,Nl,Nm,No,Be,q31R0.eq_1,q31R1.eq_1,q31R2.eq_1,q31R4.eq_1,q31R5.eq_1,q31R3.eq_1,q31R6.eq_1,c_ref27_Has.eq_1,c_ref27_Has_L0.eq_1,hlt',hg,hln,hx,hw])
      · rw [if_neg hm] at ih
        rw [if_neg (fun h => (List.mem_cons.1 h).elim hx' hm), ← ih]
        (sym => simp [Qa,Qb,Qc,Qd,Qe,Qi,Qj,Qr,Qt,Q4,Xa,Xs,Xy,X5,X8,Ya,Yh,Ys,Yt,Yy,Y9,Za,Zb,Zc,Ze,Zg,Zh,Zk,Zl,Zt,Zv,Zw,Z3,Jj,Jk,Jl,Jm,Jn,Jo,Jp,Jr,Js,Jt,Ju,Jv,Ux,U0,U4,U5,Vb,Ve,Vo,Vq,Vr,Vt,Vv,Vw,Vy,Vz,V0,Hh,Hq,Hw,H1,Ni,Nk,Nl,Nm,No,Be,q31R0.eq_1,q31R1.eq_1,q31R2.eq_1,q31R4.eq_1,q31R5.eq_1,q31R3.eq_1,q31R6.eq_1,c_ref27_Has.eq_1,c_ref27_Has_L0.eq_1,hlt',hg,hln,hx,hw])
theorem has_P (l : List Int) (b f : Bool) (x : Int) (hl : l.length < 9223372036854775807) : aP G FT n_ref27_Has [.data b 1 (ints l) f, .int .i64 x] = some (.bool (decide (x ∈ l))) := by
  unfold aP
  rw [run_ref27_Has]
  have key := has_loop G l b f x hl l.length 0 (by omega)
  simp only [List.drop_zero, Int.natCast_zero] at key
  by_cases h : x ∈ l
  · rw [if_pos h] at key
    have hd : decide (x ∈ l) = true := by simp [h]
    rw [hd]
    (sym => simp [Qb,Qd,Qe,Qj,Qr,Y1,Y5,Y7,Y9,Za,Zb,Zc,Ze,Zg,Zh,Zi,Zj,Zk,Zl,Zm,Zr,Zs,Zt,Zu,Zv,Zw,Jj,Jk,Jl,Jn,Jp,Jq,Jv,Jx,Wk,Be,q31R0.eq_1,q31R1.eq_1,q31R2.eq_1,q31R4.eq_1,q31R5.eq_1,q31R3.eq_1,q31R6.eq_1,c_ref27_Has.eq_1,key])
  · rw [if_neg h] at key
    have hd : decide (x ∈ l) = false := by simp [h]
    rw [hd]
    (sym => simp [Qb,Qd,Qe,Qj,Qr,Y1,Y5,Y7,Y9,Za,Zb,Zc,Ze,Zg,Zh,Zi,Zj,Zk,Zl,Zm,Zr,Zs,Zt,Zu,Zv,Zw,Jj,Jk,Jl,Jn,Jp,Jq,Jv,Jx,Wk,Be,q31R0.eq_1,q31R1.eq_1,q31R2.eq_1,q31R4.eq_1,q31R5.eq_1,q31R3.eq_1,q31R6.eq_1,c_ref27_Has.eq_1,key])
theorem all_P (h : Int) (q : List Int) (b f : Bool) (hl : q.length ≤ 1000) : aP G FT n_ref27_All [.agg [.int .i64 h, .data b 1 (ints q) f]] = some (.data false 1 (ints (allT h q)) false) := by
  unfold aP allT
  rw [run_ref27_All]
  by_cases h0 : h = 0
  · rw [if_pos h0, ints_nil]
    (sym => simp [Qb,Qc,Qd,Qe,Qi,Qj,Qr,Qt,Qw,Qz,Q0,Q2,Q4,Xa,Xp,X0,X8,Yj,Yk,Yr,Yt,Yv,Y1,Y3,Y5,Y7,Y9,Za,Zb,Zc,Ze,Zg,Zh,Zi,Zj,Zk,Zl,Zm,Zn,Zr,Zs,Zt,Zu,Zv,Zw,Zx,Zy,Zz,Z0,Z3,Jj,Jk,Jl,Jr,Jv,Jx,Kv,Kx,Ua,Ub,Uc,Ud,Ue,Uf,Ug,Ul,Wf,Wg,Hh,Hi,Hk,Hl,Ho,Hq,Hs,Hu,Hv,H2,H3,H8,Nl,Nm,No,Np,Nz,N2,Be,Bg,q28R0.eq_1,q28R1.eq_1,q28R2.eq_1,q28R3.eq_1,c_ref27_All.eq_1,h0])
  · rw [if_neg h0, ints_cons]
    have hln := ints_len q
    have hb : (1 + q.length) * 8 ≤ 140737488355328 := by omega
    have hlt : 1 + q.length ≤ 1 ↔ q.length = 0 := by omega
    have tk : List.take (1 + q.length) ([AV.int .i64 h] :: ints q) = [AV.int .i64 h] :: ints q := List.take_of_length_le (by simp [hln]; omega)
    have n1 : 1 + q.length ≤ q.length + 1 := by omega
    (sym => simp [Qb,Qc,Qd,Qe,Qi,Qj,Qr,Qt,Qw,Qz,Q0,Q2,Q4,Xa,Xp,X0,X8,Yj,Yk,Yr,Yt,Yv,Y1,Y3,Y5,Y7,Y9,Za,Zb,Zc,Ze,Zg,Zh,Zi,Zj,Zk,Zl,Zm,Zn,Zr,Zs,Zt,Zu,Zv,Zw,Zx,Zy,Zz,Z0,Z3,Jj,Jk,Jl,Jr,Jv,Jx,Kv,Kx,Ua,Ub,Uc,Ud,Ue,Uf,Ug,Ul,Wf,Wg,Hh,Hi,Hk,Hl,Ho,Hq,Hs,Hu,Hv,H2,H3,H8,Nl,Nm,No,Np,Nz,N2,Be,Bg,q28R0.eq_1,q28R1.eq_1,q28R2.eq_1,q28R3.eq_1,c_ref27_All.eq_1,h0,hln,hb,hlt,tk,n1])

/-! ### May -/
def okAt (l : List Int) (i : Nat) : Bool := decide (1 ≤ l.getD i 0) && decide (l.getD i 0 ≤ 8) && !decide (l.getD i 0 ∈ l.take i)
def rmay (l : List Int) : Nat → Nat → Bool
  | 0, _ => true
  | m + 1, i => okAt l i && rmay l m (i + 1)
theorem rmay_loop (l : List Int) (hl : l.length < 9223372036854775807) : ∀ (m i : Nat), i + m = l.length →
    aE G FT 0 lp_ref27_May_0 ⟨[(3, .data false 1 (ints l) false), (4, .int .i64 i)], []⟩ =
      if rmay l m i = true then some (.exit 0, ⟨[(3, .data false 1 (ints l) false), (4, .int .i64 l.length), (17, .bool false)], []⟩) else some (.ret, ⟨[(2, .bool false)], []⟩) := by
  intro m
  induction m with
  | zero =>
    intro i hi
    rw [lp_ref27_May_0, y_loop]
    have ei : i = l.length := by omega
    subst ei
    have e0 : decide ((l.length : Int) < l.length) = false := by simp
    have hln := ints_len l
    rw [rmay, if_pos rfl]
    (sym => simp [Qa,Qb,Qc,Qd,Qe,Qf,Qg,Qi,Qj,Qm,Qn,Qo,Qr,Qt,Qu,Q4,Xa,Xl,Xm,Xn,Xs,Xy,X5,Ya,Yc,Yh,Ys,Yt,Yy,Y9,Za,Zb,Zc,Ze,Zg,Zh,Zk,Zl,Zo,Zt,Zv,Zw,Z3,Jb,Jj,Jk,Jl,Jm,Jn,Jo,Jp,Jr,Js,Jt,Ju,Jv,K0,K1,K3,Ux,U0,U4,U5,Vb,Ve,Vo,Vq,Vr,Vt,Vv,Vw,Vy,Vz,V0,V6,V9,Wd,We,Hh,Hq,Hs,Hw,H1,Nf,Ni,Nk,Nl,Nm,No,Nr,Nw,Nx,Nz,Be,q33R0.eq_1,q33R1.eq_1,q33R2.eq_1,q33R3.eq_1,q33R4.eq_1,q33R5.eq_1,q33R7.eq_1,q33R8.eq_1,q33R6.eq_1,q33R9.eq_1,c_ref27_May.eq_1,c_ref27_May_L0.eq_1,e0,hln])
  | succ m ih =>
    intro i hi
    have ih := ih (i + 1) (by omega)
    rw [lp_ref27_May_0] at ih
    rw [lp_ref27_May_0, y_loop]
    have hlt : i < l.length := by omega
    have hlt' : (i : Int) < l.length := by omega
    have hle : i ≤ l.length := by omega
    have hw := wrap_nat (n := i) (by omega)
    have hg := ints_at hlt
    have hln := ints_len l
    have hgd : l.getD i 0 = l[i] := by rw [List.getD_eq_getElem?_getD, List.getElem?_eq_getElem hlt]; rfl
    have hH := fun b f x => has_P G (l.take i) b f x (by simp; omega)
    rw [← ints_take] at hH
    have ok : okAt l i = (decide (1 ≤ l[i]) && decide (l[i] ≤ 8) && !decide (l[i] ∈ l.take i)) := by rw [okAt, hgd]
    rw [rmay, ok]
    generalize l[i] = x at hg hgd
    by_cases h1 : x < 1
    · have h1' : ¬ 1 ≤ x := by omega
      simp only [h1', decide_false, Bool.false_and, Bool.false_eq_true, if_false]
      (sym => simp [Qa,Qb,Qc,Qd,Qe,Qf,Qg,Qi,Qj,Qm,Qn,Qo,Qr,Qt,Qu,Q4,Xa,Xl,Xm,Xn,Xs,Xy,X5,Ya,Yc,Yh,Ys,Yt,Yy,Y9,Za,Zb,Zc,Ze,Zg,Zh,Zk,Zl,Zo,Zt,Zv,Zw,Z3,Jb,Jj,Jk,Jl,Jm,Jn,Jo,Jp,Jr,Js,Jt,Ju,Jv,K0,K1,K3,Ux,U0,U4,U5,Vb,Ve,Vo,Vq,Vr,Vt,Vv,Vw,Vy,Vz,V0,V6,V9,Wd,We,Hh,Hq,Hs,Hw,H1,Nf,Ni,Nk,Nl,Nm,No,Nr,Nw,Nx,Nz,Be,q33R0.eq_1,q33R1.eq_1,q33R2.eq_1,q33R3.eq_1,q33R4.eq_1,q33R5.eq_1,q33R7.eq_1,q33R8.eq_1,q33R6.eq_1,q33R9.eq_1,c_ref27_May.eq_1,c_ref27_May_L0.eq_1,hlt',hg,hln,h1,hw])
    · have h1' : 1 ≤ x := by omega
      by_cases h8 : 8 < x
      · have h8' : ¬ x ≤ 8 := by omega
        simp only [h8', decide_false, Bool.and_false, Bool.false_and, Bool.false_eq_true, if_false]
        (sym => simp [Qa,Qb,Qc,Qd,Qe,Qf,Qg,Qi,Qj,Qm,Qn,Qo,Qr,Qt,Qu,Q4,Xa,Xl,Xm,Xn,Xs,Xy,X5,Ya,Yc,Yh,Ys,Yt,Yy,Y9,Za,Zb,Zc,Ze,Zg,Zh,Zk,Zl,Zo,Zt,Zv,Zw,Z3,Jb,Jj,Jk,Jl,Jm,Jn,Jo,Jp,Jr,Js,Jt,Ju,Jv,K0,K1,K3,Ux,U0,U4,U5,Vb,Ve,Vo,Vq,Vr,Vt,Vv,Vw,Vy,Vz,V0,V6,V9,Wd,We,Hh,Hq,Hs,Hw,H1,Nf,Ni,Nk,Nl,Nm,No,Nr,Nw,Nx,Nz,Be,q33R0.eq_1,q33R1.eq_1,q33R2.eq_1,q33R3.eq_1,q33R4.eq_1,q33R5.eq_1,q33R7.eq_1,q33R8.eq_1,q33R6.eq_1,q33R9.eq_1,c_ref27_May.eq_1,c_ref27_May_L0.eq_1,hlt',hg,hln,h1,h8,hw])
      · have h8' : x ≤ 8 := by omega
        by_cases hm : x ∈ l.take i
        · simp only [hm, decide_true, Bool.not_true, Bool.and_false, Bool.false_and, Bool.false_eq_true, if_false]
          have hd : decide (x ∈ l.take i) = true := by simp [hm]
          (sym => simp [Qa,Qb,Qc,Qd,Qe,Qf,Qg,Qi,Qj,Qm,Qn,Qo,Qr,Qt,Qu,Q4,Xa,Xl,Xm,Xn,Xs,Xy,X5,Ya,Yc,Yh,Ys,Yt,Yy,Y9,Za,Zb,Zc,Ze,Zg,Zh,Zk,Zl,Zo,Zt,Zv,Zw,Z3,Jb,Jj,Jk,Jl,Jm,Jn,Jo,Jp,Jr,Js,Jt,Ju,Jv,K0,K1,K3,Ux,U0,U4,U5,Vb,Ve,Vo,Vq,Vr,Vt,Vv,Vw,Vy,Vz,V0,V6,V9,Wd,We,Hh,Hq,Hs,Hw,H1,Nf,Ni,Nk,Nl,Nm,No,Nr,Nw,Nx,Nz,Be,q33R0.eq_1,q33R1.eq_1,q33R2.eq_1,q33R3.eq_1,q33R4.eq_1,q33R5.eq_1,q33R7.eq_1,q33R8.eq_1,q33R6.eq_1,q33R9.eq_1,c_ref27_May.eq_1,c_ref27_May_L0.eq_1,hlt',hg,hln,h1,h8,hH,hd,hle,hw])
        · simp only [h1', h8', hm, decide_true, decide_false, Bool.not_false, Bool.and_true, Bool.true_and]
          rw [← ih]
          have hd : decide (x ∈ l.take i) = false := by simp [hm]
          (sym => simp [Qa,Qb,Qc,Qd,Qe,Qf,Qg,Qi,Qj,Qm,Qn,Qo,Qr,Qt,Qu,Q4,Xa,Xl,Xm,Xn,Xs,Xy,X5,Ya,Yc,Yh,Ys,Yt,Yy,Y9,Za,Zb,Zc,Ze,Zg,Zh,Zk,Zl,Zo,Zt,Zv,Zw,Z3,Jb,Jj,Jk,Jl,Jm,Jn,Jo,Jp,Jr,Js,Jt,Ju,Jv,K0,K1,K3,Ux,U0,U4,U5,Vb,Ve,Vo,Vq,Vr,Vt,Vv,Vw,Vy,Vz,V0,V6,V9,Wd,We,Hh,Hq,Hs,Hw,H1,Nf,Ni,Nk,Nl,Nm,No,Nr,Nw,Nx,Nz,Be,q33R0.eq_1,q33R1.eq_1,q33R2.eq_1,q33R3.eq_1,q33R4.eq_1,q33R5.eq_1,q33R7.eq_1,q33R8.eq_1,q33R6.eq_1,q33R9.eq_1,c_ref27_May.eq_1,c_ref27_May_L0.eq_1,hlt',hg,hln,h1,h8,hH,hd,hle,hw])
theorem rmay_iff (l : List Int) : ∀ (m i : Nat), i + m = l.length → (rmay l m i = true ↔ ∀ k, i ≤ k → k < l.length → okAt l k = true)
  | 0, i, hi => by simp only [rmay, true_iff]; intro k h1 h2; omega
  | m + 1, i, hi => by
    rw [rmay, Bool.and_eq_true, rmay_iff l m (i + 1) (by omega)]
    constructor
    · rintro ⟨h1, h2⟩ k hk1 hk2
      by_cases e : k = i
      · subst e; exact h1
      · exact h2 k (by omega) hk2
    · intro h
      exact ⟨h i (Nat.le_refl _) (by omega), fun k hk1 hk2 => h k (by omega) hk2⟩
theorem rmay_eq (l : List Int) : rmay l l.length 0 = (mayRun [] l).1 := by
  rw [Bool.eq_iff_iff, rmay_iff l l.length 0 (by omega), mayRun_iff]
  have gd : ∀ k (hk : k < l.length), l.getD k 0 = l[k] := fun k hk => by rw [List.getD_eq_getElem?_getD, List.getElem?_eq_getElem hk]; rfl
  constructor
  · intro h
    refine ⟨fun x hx => ?_, ?_⟩
    · obtain ⟨k, hk, rfl⟩ := List.mem_iff_getElem.1 hx
      have := h k (by omega) hk
      simp only [okAt, gd k hk, Bool.and_eq_true, decide_eq_true_eq] at this
      exact ⟨this.1.1, this.1.2, by simp⟩
    · rw [List.nodup_iff_pairwise_ne, List.pairwise_iff_getElem]
      intro i j hi hj hij e
      have := h j (by omega) hj
      simp only [okAt, gd j hj, Bool.and_eq_true, Bool.not_eq_true', decide_eq_false_iff_not] at this
      exact this.2 (by rw [← e]; exact List.mem_take_iff_getElem.2 ⟨i, by omega, rfl⟩)
  · rintro ⟨h1, h2⟩ k _ hk
    have := h1 l[k] (List.getElem_mem _)
    simp only [okAt, gd k hk, Bool.and_eq_true, decide_eq_true_eq, Bool.not_eq_true', decide_eq_false_iff_not]
    refine ⟨⟨this.1, this.2.1⟩, fun hm => ?_⟩
    obtain ⟨i, hi, e⟩ := List.mem_take_iff_getElem.1 hm
    rw [List.nodup_iff_pairwise_ne, List.pairwise_iff_getElem] at h2
    exact h2 i k (by omega) hk (by omega) e
theorem rmay_P (h : Int) (q : List Int) (b f : Bool) (hl : q.length ≤ 1000) : aP G FT n_ref27_May [.agg [.int .i64 h, .data b 1 (ints q) f]] = some (.bool (mayT h q)) := by
  unfold aP mayT
  rw [run_ref27_May]
  by_cases h0 : h = 0
  · rw [if_pos h0]
    have hln := ints_len q
    cases q with
    | nil => simp only [ints_nil] at *; (sym => simp [Qb,Qc,Qd,Qe,Qi,Qj,Qm,Qn,Qo,Qr,Qt,Qw,Q4,Xa,Xp,Xy,X8,Yh,Yj,Yr,Yt,Yu,Yv,Y1,Y5,Y7,Y9,Za,Zb,Zc,Ze,Zg,Zh,Zi,Zj,Zk,Zl,Zm,Zn,Zo,Zr,Zs,Zt,Zu,Zv,Zw,Zy,Z0,Z3,Jj,Jk,Jl,Jn,Jp,Jq,Jr,Jv,Jx,Ue,Uf,Ug,Ul,Ux,U0,U4,U5,Vb,Ve,Vo,Vq,Vr,Vt,Vv,Vw,Vy,Vz,V0,V3,V6,V9,Wd,We,Wk,Hh,Hi,Ho,Hp,Hq,Hs,Hv,Hw,H1,Nl,Nm,No,Np,Nw,Nx,Be,Bh,q33R0.eq_1,q33R1.eq_1,q33R2.eq_1,q33R3.eq_1,q33R4.eq_1,q33R5.eq_1,q33R7.eq_1,q33R8.eq_1,q33R6.eq_1,q33R9.eq_1,c_ref27_May.eq_1,h0,List.isEmpty_nil])
    | cons y q =>
      have n0 : ¬ (((q.length + 1 : Nat) : Int) = 0) := by omega
      (sym => simp [Qb,Qc,Qd,Qe,Qi,Qj,Qm,Qn,Qo,Qr,Qt,Qw,Q4,Xa,Xp,Xy,X8,Yh,Yj,Yr,Yt,Yu,Yv,Y1,Y5,Y7,Y9,Za,Zb,Zc,Ze,Zg,Zh,Zi,Zj,Zk,Zl,Zm,Zn,Zo,Zr,Zs,Zt,Zu,Zv,Zw,Zy,Z0,Z3,Jj,Jk,Jl,Jn,Jp,Jq,Jr,Jv,Jx,Ue,Uf,Ug,Ul,Ux,U0,U4,U5,Vb,Ve,Vo,Vq,Vr,Vt,Vv,Vw,Vy,Vz,V0,V3,V6,V9,Wd,We,Wk,Hh,Hi,Ho,Hp,Hq,Hs,Hv,Hw,H1,Nl,Nm,No,Np,Nw,Nx,Be,Bh,q33R0.eq_1,q33R1.eq_1,q33R2.eq_1,q33R3.eq_1,q33R4.eq_1,q33R5.eq_1,q33R7.eq_1,q33R8.eq_1,q33R6.eq_1,q33R9.eq_1,c_ref27_May.eq_1,h0,hln,n0,List.isEmpty_cons])
  · have hA := fun b f => all_P G h q b f hl
    have key := rmay_loop G (h :: q) (by simp; omega) (h :: q).length 0 (by omega)
    simp only [Int.natCast_zero] at key
    rw [rmay_eq] at key
    have ha : allT h q = h :: q := by simp [allT, h0]
    rw [ha] at hA
    rw [if_neg h0]
    have enter : ∀ st, agc 0 [3, 4] st = some ⟨[(3, .data false 1 (ints (h :: q)) false), (4, .int .i64 0)], []⟩ → aE G FT 0 lp_ref27_May_0 st = aE G FT 0 lp_ref27_May_0 ⟨[(3, .data false 1 (ints (h :: q)) false), (4, .int .i64 0)], []⟩ := fun st hst => by
      rw [lp_ref27_May_0, loop_gc hst ?_]
      (sym => simp [Qb,Qc,Qd,Qe,Qi,Qj,Qm,Qn,Qo,Qr,Qt,Qw,Q4,Xa,Xp,Xy,X8,Yh,Yj,Yr,Yt,Yu,Yv,Y1,Y5,Y7,Y9,Za,Zb,Zc,Ze,Zg,Zh,Zi,Zj,Zk,Zl,Zm,Zn,Zo,Zr,Zs,Zt,Zu,Zv,Zw,Zy,Z0,Z3,Jj,Jk,Jl,Jn,Jp,Jq,Jr,Jv,Jx,Ue,Uf,Ug,Ul,Ux,U0,U4,U5,Vb,Ve,Vo,Vq,Vr,Vt,Vv,Vw,Vy,Vz,V0,V3,V6,V9,Wd,We,Wk,Hh,Hi,Ho,Hp,Hq,Hs,Hv,Hw,H1,Nl,Nm,No,Np,Nw,Nx,Be,Bh])
    (sym => simp [Qb,Qc,Qd,Qe,Qi,Qj,Qm,Qn,Qo,Qr,Qt,Qw,Q4,Xa,Xp,Xy,X8,Yh,Yj,Yr,Yt,Yu,Yv,Y1,Y5,Y7,Y9,Za,Zb,Zc,Ze,Zg,Zh,Zi,Zj,Zk,Zl,Zm,Zn,Zo,Zr,Zs,Zt,Zu,Zv,Zw,Zy,Z0,Z3,Jj,Jk,Jl,Jn,Jp,Jq,Jr,Jv,Jx,Ue,Uf,Ug,Ul,Ux,U0,U4,U5,Vb,Ve,Vo,Vq,Vr,Vt,Vv,Vw,Vy,Vz,V0,V3,V6,V9,Wd,We,Wk,Hh,Hi,Ho,Hp,Hq,Hs,Hv,Hw,H1,Nl,Nm,No,Np,Nw,Nx,Be,Bh,q33R0.eq_1,q33R1.eq_1,q33R2.eq_1,q33R3.eq_1,q33R4.eq_1,q33R5.eq_1,q33R7.eq_1,q33R8.eq_1,q33R6.eq_1,q33R9.eq_1,c_ref27_May.eq_1,h0,hA]; tactic => (
      rw [enter _ ?hst, key]
      case hst => cases b <;> (sym => simp [Qb,Qc,Qd,Qe,Qi,Qj,Qm,Qn,Qo,Qr,Qt,Qw,Q4,Xa,Xp,Xy,X8,Yh,Yj,Yr,Yt,Yu,Yv,Y1,Y5,Y7,Y9,Za,Zb,Zc,Ze,Zg,Zh,Zi,Zj,Zk,Zl,Zm,Zn,Zo,Zr,Zs,Zt,Zu,Zv,Zw,Zy,Z0,Z3,Jj,Jk,Jl,Jn,Jp,Jq,Jr,Jv,Jx,Ue,Uf,Ug,Ul,Ux,U0,U4,U5,Vb,Ve,Vo,Vq,Vr,Vt,Vv,Vw,Vy,Vz,V0,V3,V6,V9,Wd,We,Wk,Hh,Hi,Ho,Hp,Hq,Hs,Hv,Hw,H1,Nl,Nm,No,Np,Nw,Nx,Be,Bh])
      cases (mayRun [] (h :: q)).1 with
      | true => (sym => simp [Qb,Qc,Qd,Qe,Qi,Qj,Qm,Qn,Qo,Qr,Qt,Qw,Q4,Xa,Xp,Xy,X8,Yh,Yj,Yr,Yt,Yu,Yv,Y1,Y5,Y7,Y9,Za,Zb,Zc,Ze,Zg,Zh,Zi,Zj,Zk,Zl,Zm,Zn,Zo,Zr,Zs,Zt,Zu,Zv,Zw,Zy,Z0,Z3,Jj,Jk,Jl,Jn,Jp,Jq,Jr,Jv,Jx,Ue,Uf,Ug,Ul,Ux,U0,U4,U5,Vb,Ve,Vo,Vq,Vr,Vt,Vv,Vw,Vy,Vz,V0,V3,V6,V9,Wd,We,Wk,Hh,Hi,Ho,Hp,Hq,Hs,Hv,Hw,H1,Nl,Nm,No,Np,Nw,Nx,Be,Bh,q33R0.eq_1,q33R1.eq_1,q33R2.eq_1,q33R3.eq_1,q33R4.eq_1,q33R5.eq_1,q33R7.eq_1,q33R8.eq_1,q33R6.eq_1,q33R9.eq_1,c_ref27_May.eq_1,if_true])
      | false => (sym => simp [Qb,Qc,Qd,Qe,Qi,Qj,Qm,Qn,Qo,Qr,Qt,Qw,Q4,Xa,Xp,Xy,X8,Yh,Yj,Yr,Yt,Yu,Yv,Y1,Y5,Y7,Y9,Za,Zb,Zc,Ze,Zg,Zh,Zi,Zj,Zk,Zl,Zm,Zn,Zo,Zr,Zs,Zt,Zu,Zv,Zw,Zy,Z0,Z3,Jj,Jk,Jl,Jn,Jp,Jq,Jr,Jv,Jx,Ue,Uf,Ug,Ul,Ux,U0,U4,U5,Vb,Ve,Vo,Vq,Vr,Vt,Vv,Vw,Vy,Vz,V0,V3,V6,V9,Wd,We,Wk,Hh,Hi,Ho,Hp,Hq,Hs,Hv,Hw,H1,Nl,Nm,No,Np,Nw,Nx,Be,Bh,q33R0.eq_1,q33R1.eq_1,q33R2.eq_1,q33R3.eq_1,q33R4.eq_1,q33R5.eq_1,q33R7.eq_1,q33R8.eq_1,q33R6.eq_1,q33R9.eq_1,c_ref27_May.eq_1,if_false])))

/-! ### Same -/
section
variable (h1 h2 : Int) (q1 q2 : List Int) (b1 f1 b2 f2 : Bool) (hl : q1.length = q2.length) (hb : q1.length < 9223372036854775807)
include hl hb
theorem same_loop : ∀ (m i : Nat), i + m = q1.length →
    aE G FT 0 lp_ref27_Same_0 ⟨[(2, .ptr 0 0 0 0), (3, .ptr 1 0 0 0), (5, .int .i64 i)], [⟨2, 0, !b1, [[.int .i64 h1, .data b1 1 (ints q1) f1]]⟩, ⟨2, 0, !b2, [[.int .i64 h2, .data b2 1 (ints q2) f2]]⟩]⟩ =
      if q1.drop i = q2.drop i then some (.exit 0, ⟨[(2, .ptr 0 0 0 0), (3, .ptr 1 0 0 0), (5, .int .i64 q1.length), (24, .bool false)], [⟨2, 0, !b1, [[.int .i64 h1, .data b1 1 (ints q1) f1]]⟩, ⟨2, 0, !b2, [[.int .i64 h2, .data b2 1 (ints q2) f2]]⟩]⟩)
      else some (.ret, ⟨[(4, .bool false)], [⟨2, 0, !b1, [[.int .i64 h1, .data b1 1 (ints q1) f1]]⟩, ⟨2, 0, !b2, [[.int .i64 h2, .data b2 1 (ints q2) f2]]⟩]⟩) := by
  have gc : ∀ i : Int, agc 0 [2, 3, 5] ⟨[(2, .ptr 0 0 0 0), (3, .ptr 1 0 0 0), (5, .int .i64 i)], [⟨2, 0, !b1, [[.int .i64 h1, .data b1 1 (ints q1) f1]]⟩, ⟨2, 0, !b2, [[.int .i64 h2, .data b2 1 (ints q2) f2]]⟩]⟩ =
      some ⟨[(2, .ptr 0 0 0 0), (3, .ptr 1 0 0 0), (5, .int .i64 i)], [⟨2, 0, !b1, [[.int .i64 h1, .data b1 1 (ints q1) f1]]⟩, ⟨2, 0, !b2, [[.int .i64 h2, .data b2 1 (ints q2) f2]]⟩]⟩ := fun i => by
    cases b1 <;> cases b2 <;> (sym => simp [Qa,Qb,Qc,Qd,Qe,Qi,Qj,Qr,Qt,Q4,Xa,Xp,Xs,Xy,X5,X9,Ya,Yh,Yr,Ys,Yt,Yv,Yy,Y9,Za,Zb,Zc,Ze,Zg,Zh,Zk,Zl,Zm,Zn,Zt,Zv,Zw,Zx,Zy,Zz,Z0,Z3,Jj,Jk,Jl,Jm,Jn,Jo,Jp,Jr,Js,Jt,Ju,Jv,Ut,Ux,U0,U4,U5,U7,Vb,Ve,Vi,Vj,Vk,Vl,Vm,Vn,Vo,Vp,Vq,Vr,Vs,Vt,Vu,Vv,Vw,Vx,Vy,Vz,V0,Hh,Hi,Hp,Hu,Hv,Hw,H0,H1,H4,H5,H6,Ni,Nk,Nl,Nm,No,Nu,Nw,Nx,Be])
  intro m
  induction m with
  | zero =>
    intro i hi
    obtain rfl : i = q1.length := by omega
    rw [lp_ref27_Same_0, y_loop, gc, if_pos (by rw [List.drop_length, hl, List.drop_length])]
    have h4 : ¬ (q1.length : Int) < q1.length := by omega
    (sym => simp [Qa,Qb,Qc,Qd,Qe,Qi,Qj,Qr,Qt,Q4,Xa,Xp,Xs,Xy,X5,X9,Ya,Yh,Yr,Ys,Yt,Yv,Yy,Y9,Za,Zb,Zc,Ze,Zg,Zh,Zk,Zl,Zm,Zn,Zt,Zv,Zw,Zx,Zy,Zz,Z0,Z3,Jj,Jk,Jl,Jm,Jn,Jo,Jp,Jr,Js,Jt,Ju,Jv,Ut,Ux,U0,U4,U5,U7,Vb,Ve,Vi,Vj,Vk,Vl,Vm,Vn,Vo,Vp,Vq,Vr,Vs,Vt,Vu,Vv,Vw,Vx,Vy,Vz,V0,Hh,Hi,Hp,Hu,Hv,Hw,H0,H1,H4,H5,H6,Ni,Nk,Nl,Nm,No,Nu,Nw,Nx,Be,q35R0.eq_1,q35R1.eq_1,q35R2.eq_1,q35R3.eq_1,q35R4.eq_1,q35R6.eq_1,q35R7.eq_1,q35R5.eq_1,q35R8.eq_1,c_ref27_Same.eq_1,c_ref27_Same_L0.eq_1,h4,ints_len])
  | succ m ih =>
    intro i hi
    have ih := ih (i + 1) (by omega)
    have hlt : i < q1.length := by omega
    have hlt2 : i < q2.length := by omega
    have h4 : (i : Int) < q1.length := by omega
    have g1 := ints_at hlt
    have g2 := ints_at hlt2
    have e1 : q1.drop i = q1[i] :: q1.drop (i + 1) := List.drop_eq_getElem_cons hlt
    have e2 : q2.drop i = q2[i] :: q2.drop (i + 1) := List.drop_eq_getElem_cons hlt2
    have hw := wrap_nat (n := i) (by omega)
    rw [lp_ref27_Same_0] at ih
    rw [lp_ref27_Same_0, y_loop, gc, e1, e2]
    by_cases hx : q1[i] = q2[i]
    · simp only [List.cons.injEq, hx, true_and]
      rw [← ih]
      (sym => simp [Qa,Qb,Qc,Qd,Qe,Qi,Qj,Qr,Qt,Q4,Xa,Xp,Xs,Xy,X5,X9,Ya,Yh,Yr,Ys,Yt,Yv,Yy,Y9,Za,Zb,Zc,Ze,Zg,Zh,Zk,Zl,Zm,Zn,Zt,Zv,Zw,Zx,Zy,Zz,Z0,Z3,Jj,Jk,Jl,Jm,Jn,Jo,Jp,Jr,Js,Jt,Ju,Jv,Ut,Ux,U0,U4,U5,U7,Vb,Ve,Vi,Vj,Vk,Vl,Vm,Vn,Vo,Vp,Vq,Vr,Vs,Vt,Vu,Vv,Vw,Vx,Vy,Vz,V0,Hh,Hi,Hp,Hu,Hv,Hw,H0,H1,H4,H5,H6,Ni,Nk,Nl,Nm,No,Nu,Nw,Nx,Be,q35R0.eq_1,q35R1.eq_1,q35R2.eq_1,q35R3.eq_1,q35R4.eq_1,q35R6.eq_1,q35R7.eq_1,q35R5.eq_1,q35R8.eq_1,c_ref27_Same.eq_1,c_ref27_Same_L0.eq_1,h4,ints_len,g1,g2,hx,hw])
    · rw [if_neg (fun h => hx (List.cons.inj h).1)]
      (sym => simp [Qa,Qb,Qc,Qd,Qe,Qi,Qj,Qr,Qt,Q4,Xa,Xp,Xs,Xy,X5,X9,Ya,Yh,Yr,Ys,Yt,Yv,Yy,Y9,Za,Zb,Zc,Ze,Zg,Zh,Zk,Zl,Zm,Zn,Zt,Zv,Zw,Zx,Zy,Zz,Z0,Z3,Jj,Jk,Jl,Jm,Jn,Jo,Jp,Jr,Js,Jt,Ju,Jv,Ut,Ux,U0,U4,U5,U7,Vb,Ve,Vi,Vj,Vk,Vl,Vm,Vn,Vo,Vp,Vq,Vr,Vs,Vt,Vu,Vv,Vw,Vx,Vy,Vz,V0,Hh,Hi,Hp,Hu,Hv,Hw,H0,H1,H4,H5,H6,Ni,Nk,Nl,Nm,No,Nu,Nw,Nx,Be,q35R0.eq_1,q35R1.eq_1,q35R2.eq_1,q35R3.eq_1,q35R4.eq_1,q35R6.eq_1,q35R7.eq_1,q35R5.eq_1,q35R8.eq_1,c_ref27_Same.eq_1,c_ref27_Same_L0.eq_1,h4,ints_len,g1,g2,hx,hw])
end
theorem same_P (h1 h2 : Int) (q1 q2 : List Int) (b1 f1 b2 f2 : Bool) (hb : q1.length < 9223372036854775807) :
    aP G FT n_ref27_Same [.agg [.int .i64 h1, .data b1 1 (ints q1) f1], .agg [.int .i64 h2, .data b2 1 (ints q2) f2]] = some (.bool (decide (h1 = h2 ∧ q1 = q2))) := by
  unfold aP
  rw [run_ref27_Same]
  by_cases he : h1 = h2
  · subst he
    by_cases hl : q1.length = q2.length
    · have key := same_loop G h1 h1 q1 q2 b1 f1 b2 f2 hl hb q1.length 0 (by omega)
      simp only [List.drop_zero, Int.natCast_zero] at key
      have hl2 : ((q1.length : Int) = q2.length) := by omega
      by_cases hq : q1 = q2
      · rw [if_pos hq] at key
        have hd : decide (h1 = h1 ∧ q1 = q2) = true := by simp [hq]
        rw [hd]
        (sym => simp [Qb,Qc,Qd,Qe,Qf,Qg,Qi,Qj,Qr,Qt,Qu,Qw,Q4,Xa,Xp,Xy,X9,Yh,Yj,Yr,Yt,Yv,Y1,Y5,Y7,Y9,Za,Zb,Zc,Ze,Zg,Zh,Zi,Zj,Zk,Zl,Zm,Zn,Zr,Zs,Zt,Zu,Zv,Zw,Zy,Z0,Z3,Jb,Jj,Jk,Jl,Jn,Jp,Jq,Jr,Jv,Jx,Ue,Uf,Ug,Ul,Wk,Hh,Hi,Hu,Hv,Nl,Nm,No,Np,Nw,Nx,Be,q35R0.eq_1,q35R1.eq_1,q35R2.eq_1,q35R3.eq_1,q35R4.eq_1,q35R6.eq_1,q35R7.eq_1,q35R5.eq_1,q35R8.eq_1,c_ref27_Same.eq_1,key,ints_len,hl2])
      · rw [if_neg hq] at key
        have hd : decide (h1 = h1 ∧ q1 = q2) = false := by simp [hq]
        rw [hd]
        (sym => simp [Qb,Qc,Qd,Qe,Qf,Qg,Qi,Qj,Qr,Qt,Qu,Qw,Q4,Xa,Xp,Xy,X9,Yh,Yj,Yr,Yt,Yv,Y1,Y5,Y7,Y9,Za,Zb,Zc,Ze,Zg,Zh,Zi,Zj,Zk,Zl,Zm,Zn,Zr,Zs,Zt,Zu,Zv,Zw,Zy,Z0,Z3,Jb,Jj,Jk,Jl,Jn,Jp,Jq,Jr,Jv,Jx,Ue,Uf,Ug,Ul,Wk,Hh,Hi,Hu,Hv,Nl,Nm,No,Np,Nw,Nx,Be,q35R0.eq_1,q35R1.eq_1,q35R2.eq_1,q35R3.eq_1,q35R4.eq_1,q35R6.eq_1,q35R7.eq_1,q35R5.eq_1,q35R8.eq_1,c_ref27_Same.eq_1,key,ints_len,hl2])
    · have hd : decide (h1 = h1 ∧ q1 = q2) = false := by simp; intro h; exact hl (by rw [h])
      rw [hd]
      have hl2 : ¬ ((q1.length : Int) = q2.length) := by omega
      (sym => simp [Qb,Qc,Qd,Qe,Qf,Qg,Qi,Qj,Qr,Qt,Qu,Qw,Q4,Xa,Xp,Xy,X9,Yh,Yj,Yr,Yt,Yv,Y1,Y5,Y7,Y9,Za,Zb,Zc,Ze,Zg,Zh,Zi,Zj,Zk,Zl,Zm,Zn,Zr,Zs,Zt,Zu,Zv,Zw,Zy,Z0,Z3,Jb,Jj,Jk,Jl,Jn,Jp,Jq,Jr,Jv,Jx,Ue,Uf,Ug,Ul,Wk,Hh,Hi,Hu,Hv,Nl,Nm,No,Np,Nw,Nx,Be,q35R0.eq_1,q35R1.eq_1,q35R2.eq_1,q35R3.eq_1,q35R4.eq_1,q35R6.eq_1,q35R7.eq_1,q35R5.eq_1,q35R8.eq_1,c_ref27_Same.eq_1,ints_len,hl2])
  · have hd : decide (h1 = h2 ∧ q1 = q2) = false := by simp [he]
    rw [hd]
    (sym => simp [Qb,Qc,Qd,Qe,Qf,Qg,Qi,Qj,Qr,Qt,Qu,Qw,Q4,Xa,Xp,Xy,X9,Yh,Yj,Yr,Yt,Yv,Y1,Y5,Y7,Y9,Za,Zb,Zc,Ze,Zg,Zh,Zi,Zj,Zk,Zl,Zm,Zn,Zr,Zs,Zt,Zu,Zv,Zw,Zy,Z0,Z3,Jb,Jj,Jk,Jl,Jn,Jp,Jq,Jr,Jv,Jx,Ue,Uf,Ug,Ul,Wk,Hh,Hi,Hu,Hv,Nl,Nm,No,Np,Nw,Nx,Be,q35R0.eq_1,q35R1.eq_1,q35R2.eq_1,q35R3.eq_1,q35R4.eq_1,q35R6.eq_1,q35R7.eq_1,q35R5.eq_1,q35R8.eq_1,c_ref27_Same.eq_1,he])
end Go.Proofs.YthcnhibjddomdaaGreat
