/- MergeBytes: the parts ahead of the turns. Conditions: none. -/
import Derived.Test.YtfnonledcniojaaMb2
set_option linter.unusedVariables false
set_option linter.unusedSimpArgs false
set_option linter.unusedSectionVars false
set_option maxRecDepth 20000
set_option maxHeartbeats 4000000
namespace Go.Proofs.Ytfnonledcniojaa
open Go
section
variable (G : Nat → Option (List AV))
theorem mrpiece_P (m a : Int) (L : List (List AV)) (b f : Bool) : aP G FT n_ref28_Piece [.agg [.int .i64 m, .int .i64 a, .data b 1 L f]] = some (.bool (pieceB m a L.length)) := by
  have p1 : (0 : Int) < m ↔ 1 ≤ m := by omega
  have p2 : m < 9 ↔ m ≤ 8 := by omega
  have p3 : (0 : Int) < a ↔ 1 ≤ a := by omega
  have p4 : (0 : Int) < L.length ↔ (1 : Int) ≤ L.length := by omega
  have p5 : (L.length : Int) < 17 ↔ (L.length : Int) ≤ 16 := by omega
  unfold aP pieceB
  rw [run_ref28_Piece]
  cases b
  all_goals
    by_cases h1 : 1 ≤ m
    · by_cases h2 : m ≤ 8
      · by_cases h3 : 1 ≤ a
        · by_cases h4 : a ≤ 1073741824
          · by_cases h5 : (1 : Int) ≤ L.length
            · by_cases h6 : (L.length : Int) ≤ 16
              · (sym => simp [Qb,Qd,Qe,Qf,Qg,Qi,Qj,Qr,Qt,Qu,Qw,Q4,Xa,Xp,Xy,Ya,Yb,Yc,Yh,Yj,Yr,Yt,Yv,Y1,Y5,Y7,Y9,Za,Zb,Zc,Ze,Zg,Zh,Zi,Zj,Zk,Zl,Zm,Zn,Zr,Zs,Zt,Zu,Zv,Zw,Zy,Z0,Z3,Ja,Jj,Jk,Jv,Jx,Ue,Uf,Ug,Ul,Wk,Hh,Hi,Hv,Nl,Nm,No,Nq,Nr,Nw,Nx,Be,q48R0.eq_1,q48R1.eq_1,c_ref28_Piece.eq_1,p1,p2,p3,p4,p5,h1,h2,h3,h4,h5,h6])
              · (sym => simp [Qb,Qd,Qe,Qf,Qg,Qi,Qj,Qr,Qt,Qu,Qw,Q4,Xa,Xp,Xy,Ya,Yb,Yc,Yh,Yj,Yr,Yt,Yv,Y1,Y5,Y7,Y9,Za,Zb,Zc,Ze,Zg,Zh,Zi,Zj,Zk,Zl,Zm,Zn,Zr,Zs,Zt,Zu,Zv,Zw,Zy,Z0,Z3,Ja,Jj,Jk,Jv,Jx,Ue,Uf,Ug,Ul,Wk,Hh,Hi,Hv,Nl,Nm,No,Nq,Nr,Nw,Nx,Be,q48R0.eq_1,q48R1.eq_1,c_ref28_Piece.eq_1,p1,p2,p3,p4,p5,h1,h2,h3,h4,h5,h6])
            · (sym => simp [Qb,Qd,Qe,Qf,Qg,Qi,Qj,Qr,Qt,Qu,Qw,Q4,Xa,Xp,Xy,Ya,Yb,Yc,Yh,Yj,Yr,Yt,Yv,Y1,Y5,Y7,Y9,Za,Zb,Zc,Ze,Zg,Zh,Zi,Zj,Zk,Zl,Zm,Zn,Zr,Zs,Zt,Zu,Zv,Zw,Zy,Z0,Z3,Ja,Jj,Jk,Jv,Jx,Ue,Uf,Ug,Ul,Wk,Hh,Hi,Hv,Nl,Nm,No,Nq,Nr,Nw,Nx,Be,q48R0.eq_1,q48R1.eq_1,c_ref28_Piece.eq_1,p1,p2,p3,p4,p5,h1,h2,h3,h4,h5])
          · (sym => simp [Qb,Qd,Qe,Qf,Qg,Qi,Qj,Qr,Qt,Qu,Qw,Q4,Xa,Xp,Xy,Ya,Yb,Yc,Yh,Yj,Yr,Yt,Yv,Y1,Y5,Y7,Y9,Za,Zb,Zc,Ze,Zg,Zh,Zi,Zj,Zk,Zl,Zm,Zn,Zr,Zs,Zt,Zu,Zv,Zw,Zy,Z0,Z3,Ja,Jj,Jk,Jv,Jx,Ue,Uf,Ug,Ul,Wk,Hh,Hi,Hv,Nl,Nm,No,Nq,Nr,Nw,Nx,Be,q48R0.eq_1,q48R1.eq_1,c_ref28_Piece.eq_1,p1,p2,p3,p4,p5,h1,h2,h3,h4])
        · (sym => simp [Qb,Qd,Qe,Qf,Qg,Qi,Qj,Qr,Qt,Qu,Qw,Q4,Xa,Xp,Xy,Ya,Yb,Yc,Yh,Yj,Yr,Yt,Yv,Y1,Y5,Y7,Y9,Za,Zb,Zc,Ze,Zg,Zh,Zi,Zj,Zk,Zl,Zm,Zn,Zr,Zs,Zt,Zu,Zv,Zw,Zy,Z0,Z3,Ja,Jj,Jk,Jv,Jx,Ue,Uf,Ug,Ul,Wk,Hh,Hi,Hv,Nl,Nm,No,Nq,Nr,Nw,Nx,Be,q48R0.eq_1,q48R1.eq_1,c_ref28_Piece.eq_1,p1,p2,p3,p4,p5,h1,h2,h3])
      · (sym => simp [Qb,Qd,Qe,Qf,Qg,Qi,Qj,Qr,Qt,Qu,Qw,Q4,Xa,Xp,Xy,Ya,Yb,Yc,Yh,Yj,Yr,Yt,Yv,Y1,Y5,Y7,Y9,Za,Zb,Zc,Ze,Zg,Zh,Zi,Zj,Zk,Zl,Zm,Zn,Zr,Zs,Zt,Zu,Zv,Zw,Zy,Z0,Z3,Ja,Jj,Jk,Jv,Jx,Ue,Uf,Ug,Ul,Wk,Hh,Hi,Hv,Nl,Nm,No,Nq,Nr,Nw,Nx,Be,q48R0.eq_1,q48R1.eq_1,c_ref28_Piece.eq_1,p1,p2,p3,p4,p5,h1,h2])
    · (sym => simp [Qb,Qd,Qe,Qf,Qg,Qi,Qj,Qr,Qt,Qu,Qw,Q4,Xa,Xp,Xy,Ya,Yb,Yc,Yh,Yj,Yr,Yt,Yv,Y1,Y5,Y7,Y9,Za,Zb,Zc,Ze,Zg,Zh,Zi,Zj,Zk,Zl,Zm,Zn,Zr,Zs,Zt,Zu,Zv,Zw,Zy,Z0,Z3,Ja,Jj,Jk,Jv,Jx,Ue,Uf,Ug,Ul,Wk,Hh,Hi,Hv,Nl,Nm,No,Nq,Nr,Nw,Nx,Be,q48R0.eq_1,q48R1.eq_1,c_ref28_Piece.eq_1,p1,p2,p3,p4,p5,h1])
theorem mrsize_loop (q : List Pc) (b f : Bool) (hl : q.length ≤ 1000) (hz : sizeQ q ≤ 1000000) : ∀ (m i : Nat), i + m = q.length →
    aE G FT 0 lp_ref28_Size_0 ⟨[(0, .data b 3 (pcs q) f), (3, .int .i64 (sizeQ (q.take i) : Nat)), (4, .int .i64 i)], []⟩ =
      some (.exit 0, ⟨[(0, .data b 3 (pcs q) f), (3, .int .i64 (sizeQ q : Nat)), (4, .int .i64 q.length), (8, .bool false)], []⟩) := by
  have hln := pcs_len q
  intro m
  induction m with
  | zero =>
    intro i hi
    rw [lp_ref28_Size_0, y_loop]
    obtain rfl : i = q.length := by omega
    have e0 : decide ((q.length : Int) < q.length) = false := by simp
    rw [List.take_length]
    (sym => simp [Qa,Qc,Qd,Qe,Qi,Qj,Qr,Qt,Q4,Xa,Xp,Xs,Xy,X5,Ya,Yh,Ys,Yt,Yw,Yy,Y9,Za,Zb,Zc,Ze,Zg,Zh,Zk,Zl,Zt,Zv,Zw,Z3,Jj,Jk,Jm,Jn,Jo,Jr,Js,Ju,Jv,Ux,U0,U4,U5,Vb,Ve,Vo,Vq,Vr,Vt,Vv,Vw,Vy,Vz,V0,Hh,Hq,Hr,Hs,Hw,H1,Ni,Nk,Nl,No,Be,q50R0.eq_1,q50R1.eq_1,q50R2.eq_1,q50R3.eq_1,q50R5.eq_1,q50R4.eq_1,q50R6.eq_1,c_ref28_Size.eq_1,c_ref28_Size_L0.eq_1,e0,hln])
  | succ m ih =>
    intro i hi
    have hlt : i < q.length := by omega
    have hlt' : (i : Int) < q.length := by omega
    have hw := wrap_nat (n := i) (by omega)
    have hg := pcs_at hlt
    have hbl := byt_len q[i].2.2.1
    have e : sizeQ (q.take (i + 1)) = sizeQ (q.take i) + q[i].2.2.1.length := by
      have e1 : q.take (i + 1) = q.take i ++ [q[i]] := by rw [List.take_add_one, List.getElem?_eq_getElem hlt]; rfl
      rw [e1, sizeQ_app]; simp [sizeQ]
    have hle : sizeQ (q.take (i + 1)) ≤ sizeQ q := by have := sizeQ_split q (i + 1); omega
    have ih := ih (i + 1) (by omega)
    rw [e] at ih hle
    have hw2 : IntKind.i64.wrap ((sizeQ (q.take i) : Int) + q[i].2.2.1.length) = ((sizeQ (q.take i) + q[i].2.2.1.length : Nat) : Int) := by rw [wrap_in _ (by omega) (by omega)]; omega
    rw [lp_ref28_Size_0] at ih
    rw [← ih, lp_ref28_Size_0, y_loop]
    (sym => simp [Qa,Qc,Qd,Qe,Qi,Qj,Qr,Qt,Q4,Xa,Xp,Xs,Xy,X5,Ya,Yh,Ys,Yt,Yw,Yy,Y9,Za,Zb,Zc,Ze,Zg,Zh,Zk,Zl,Zt,Zv,Zw,Z3,Jj,Jk,Jm,Jn,Jo,Jr,Js,Ju,Jv,Ux,U0,U4,U5,Vb,Ve,Vo,Vq,Vr,Vt,Vv,Vw,Vy,Vz,V0,Hh,Hq,Hr,Hs,Hw,H1,Ni,Nk,Nl,No,Be,q50R0.eq_1,q50R1.eq_1,q50R2.eq_1,q50R3.eq_1,q50R5.eq_1,q50R4.eq_1,q50R6.eq_1,c_ref28_Size.eq_1,c_ref28_Size_L0.eq_1,hlt',hg,hln,hbl,hw,hw2])
theorem mrsize_P (q : List Pc) (b f : Bool) (h : okL q) : aP G FT n_ref28_Size [.data b 3 (pcs q) f] = some (.int .i64 (sizeQ q : Nat)) := by
  have hz := sizeQ_le q h.2
  have h1 := h.1
  have key := mrsize_loop G q b f h.1 (by omega) q.length 0 (by omega)
  have e : sizeQ (q.take 0) = 0 := rfl
  rw [e] at key
  simp only [Int.natCast_zero] at key
  unfold aP
  rw [run_ref28_Size]
  (sym => simp [Qb,Qd,Qe,Qi,Qj,Qr,Y1,Y5,Y7,Y9,Za,Zb,Zc,Ze,Zg,Zh,Zi,Zj,Zk,Zl,Zm,Zr,Zs,Zt,Zu,Zv,Zw,Jj,Jk,Jn,Jq,Jv,Jx,Wj,Be,q50R0.eq_1,q50R1.eq_1,q50R2.eq_1,q50R3.eq_1,q50R5.eq_1,q50R4.eq_1,q50R6.eq_1,c_ref28_Size.eq_1,key])
theorem mrmay28_loop (q : List Pc) (b f : Bool) (hl : q.length ≤ 1000) : ∀ (m i : Nat), i + m = q.length →
    aE G FT 0 lp_ref28_May_0 ⟨[(0, .data b 3 (pcs q) f), (3, .int .i64 i)], []⟩ = if ((q.drop i).all pcB) = true then some (.exit 0, ⟨[(0, .data b 3 (pcs q) f), (3, .int .i64 q.length), (7, .bool false)], []⟩) else some (.ret, ⟨[(2, .bool false)], []⟩) := by
  have hln := pcs_len q
  intro m
  induction m with
  | zero =>
    intro i hi
    rw [lp_ref28_May_0, y_loop]
    have e : q.drop i = [] := List.drop_eq_nil_of_le (by omega)
    obtain rfl : i = q.length := by omega
    have e0 : decide ((q.length : Int) < q.length) = false := by simp
    rw [e, List.all_nil, if_pos rfl]
    (sym => simp [Qa,Qb,Qc,Qd,Qe,Qi,Qj,Qm,Qn,Qo,Qr,Qt,Q4,Xa,Xd,Xs,Xy,X5,Ya,Yh,Ys,Yu,Yy,Y9,Za,Zb,Zc,Ze,Zg,Zh,Zk,Zl,Zm,Zn,Zo,Zt,Zv,Zw,Z3,Jj,Jk,Jl,Jm,Jn,Jo,Jp,Jr,Js,Jt,Ju,Jv,Ux,U0,U4,U5,Vb,Ve,Vo,Vq,Vr,Vt,Vv,Vw,Vy,Vz,V0,V3,V6,V9,Wd,We,Ho,Hq,Hs,Hw,H1,Ni,Nk,Nl,No,Nw,Nx,Be,q47R0.eq_1,q47R1.eq_1,q47R2.eq_1,q47R4.eq_1,q47R5.eq_1,q47R3.eq_1,q47R6.eq_1,c_ref28_May.eq_1,c_ref28_May_L0.eq_1,e0,hln])
  | succ m ih =>
    intro i hi
    have hlt : i < q.length := by omega
    have hlt' : (i : Int) < q.length := by omega
    have hw := wrap_nat (n := i) (by omega)
    have hg := pcs_at hlt
    have hP := fun b f => mrpiece_P G q[i].1 q[i].2.1 (byt q[i].2.2.1) b f
    rw [byt_len] at hP
    have e : q.drop i = q[i] :: q.drop (i + 1) := List.drop_eq_getElem_cons hlt
    have ih := ih (i + 1) (by omega)
    rw [lp_ref28_May_0] at ih
    rw [e, List.all_cons, lp_ref28_May_0, y_loop]
    cases hx : pieceB q[i].1 q[i].2.1 q[i].2.2.1.length with
    | true =>
      have hx2 : pcB q[i] = true := hx
      rw [hx2, Bool.true_and, ← ih]
      (sym => simp [Qa,Qb,Qc,Qd,Qe,Qi,Qj,Qm,Qn,Qo,Qr,Qt,Q4,Xa,Xd,Xs,Xy,X5,Ya,Yh,Ys,Yu,Yy,Y9,Za,Zb,Zc,Ze,Zg,Zh,Zk,Zl,Zm,Zn,Zo,Zt,Zv,Zw,Z3,Jj,Jk,Jl,Jm,Jn,Jo,Jp,Jr,Js,Jt,Ju,Jv,Ux,U0,U4,U5,Vb,Ve,Vo,Vq,Vr,Vt,Vv,Vw,Vy,Vz,V0,V3,V6,V9,Wd,We,Ho,Hq,Hs,Hw,H1,Ni,Nk,Nl,No,Nw,Nx,Be,q47R0.eq_1,q47R1.eq_1,q47R2.eq_1,q47R4.eq_1,q47R5.eq_1,q47R3.eq_1,q47R6.eq_1,c_ref28_May.eq_1,c_ref28_May_L0.eq_1,hlt',hg,hln,hP,hx,hw])
    | false =>
      have hx2 : pcB q[i] = false := hx
      rw [hx2, Bool.false_and, if_neg (by simp)]
      (sym => simp [Qa,Qb,Qc,Qd,Qe,Qi,Qj,Qm,Qn,Qo,Qr,Qt,Q4,Xa,Xd,Xs,Xy,X5,Ya,Yh,Ys,Yu,Yy,Y9,Za,Zb,Zc,Ze,Zg,Zh,Zk,Zl,Zm,Zn,Zo,Zt,Zv,Zw,Z3,Jj,Jk,Jl,Jm,Jn,Jo,Jp,Jr,Js,Jt,Ju,Jv,Ux,U0,U4,U5,Vb,Ve,Vo,Vq,Vr,Vt,Vv,Vw,Vy,Vz,V0,V3,V6,V9,Wd,We,Ho,Hq,Hs,Hw,H1,Ni,Nk,Nl,No,Nw,Nx,Be,q47R0.eq_1,q47R1.eq_1,q47R2.eq_1,q47R4.eq_1,q47R5.eq_1,q47R3.eq_1,q47R6.eq_1,c_ref28_May.eq_1,c_ref28_May_L0.eq_1,hlt',hg,hln,hP,hx,hw])
theorem mrmay28_P (q : List Pc) (b f : Bool) (h : okL q) : aP G FT n_ref28_May [.data b 3 (pcs q) f] = some (.bool (mayQ 0 q)) := by
  have key := mrmay28_loop G q b f h.1 q.length 0 (by omega)
  simp only [List.drop_zero, Int.natCast_zero] at key
  have hZ := fun b f => mrsize_P G q b f h
  have e : mayQ 0 q = (q.all pcB && decide (sizeQ q ≤ 64)) := by
    rw [Bool.eq_iff_iff, may0_iff, Bool.and_eq_true, List.all_eq_true, decide_eq_true_eq]
  have p : (sizeQ q : Int) ≤ 64 ↔ sizeQ q ≤ 64 := by omega
  unfold aP
  rw [run_ref28_May, e]
  cases ha : q.all pcB with
  | true => rw [ha, if_pos rfl] at key; rw [Bool.true_and]; (sym => simp [Qb,Qd,Qe,Qi,Qj,Qm,Qn,Qo,Qr,Xa,Yb,Y1,Y5,Y7,Y9,Za,Zb,Zc,Ze,Zg,Zh,Zi,Zj,Zk,Zl,Zm,Zo,Zr,Zs,Zt,Zu,Zv,Zw,Jj,Jk,Jl,Jn,Jp,Jq,Jv,Jx,V9,Wd,We,Wk,Be,q47R0.eq_1,q47R1.eq_1,q47R2.eq_1,q47R4.eq_1,q47R5.eq_1,q47R3.eq_1,q47R6.eq_1,c_ref28_May.eq_1,key,hZ,p])
  | false => rw [ha, if_neg (by simp)] at key; rw [Bool.false_and]; (sym => simp [Qb,Qd,Qe,Qi,Qj,Qm,Qn,Qo,Qr,Xa,Yb,Y1,Y5,Y7,Y9,Za,Zb,Zc,Ze,Zg,Zh,Zi,Zj,Zk,Zl,Zm,Zo,Zr,Zs,Zt,Zu,Zv,Zw,Jj,Jk,Jl,Jn,Jp,Jq,Jv,Jx,V9,Wd,We,Wk,Be,q47R0.eq_1,q47R1.eq_1,q47R2.eq_1,q47R4.eq_1,q47R5.eq_1,q47R3.eq_1,q47R6.eq_1,c_ref28_May.eq_1,key])
end
theorem greatQ_len {q : List Pc} (h : greatQ q = false) : ∀ x ∈ q, x.2.2.1.length ≤ 100 := by
  simp only [greatQ, Bool.or_eq_false_iff, decide_eq_false_iff_not, List.any_eq_false, decide_eq_true_eq] at h
  intro x hx
  have := h.2 x hx
  omega
abbrev mbP0 : ACode := .region q12R0 false [0, 3, 4]
abbrev mbP1 : ACode := .seq (.region q12R1 false [0, 3, 4, 15]) (.cond (.slot 15) (.seq (.region q12R2 false [4]) .ret) .skip)
abbrev mbP2 : ACode := .seq (.region q12R3 false [0, 3, 4, 17]) (.cond (.slot 17) (.seq (.region q12R4 false [4]) .ret) .skip)
abbrev mbP3 : ACode := .region q12R5 false [0, 3, 4, 5]
abbrev mbP4 : ACode := .seq (.region q12R6 false [0, 3, 4, 5, 21]) (.cond (.slot 21) (.seq (.region q12R7 false [4]) .ret) .skip)
abbrev mbP5 : ACode := .region q12R8 false [0, 3, 4, 5, 6]
abbrev mbP6 : ACode := .region q12R9 false [0, 3, 4, 5, 6, 7]
abbrev mbP7 : ACode := .seq (.region q12R10 false [0, 3, 4, 5, 6, 7, 8]) (.block 0 lp_law28_MergeBytes_0)
section
variable (G : Nat → Option (List AV)) (q : List Pc) (f : Bool) (left : Int)
theorem mb_r0 : aE G FT 0 mbP0 ⟨[(0, .data false 3 (pcs q) f), (1, .int .i64 left)], []⟩ = some (.normal, ⟨[(0, .data false 3 (pcs q) f), (3, .ptr 0 0 0 0), (4, .ptr 1 0 0 0)], [⟨1, 0, true, [[.int .i64 left]]⟩, ⟨1, 0, true, [[.bool false]]⟩]⟩) := by
  unfold mbP0
  (sym => simp [Qd,Qe,Qi,Qv,Qw,Yk,Y9,Za,Zb,Zc,Ze,Zg,Zh,Zm,Zn,Zv,Zw,Jv,Ue,Uf,Ug,Uh,Hu,Hv,No,Be,q12R0.eq_1,q12R1.eq_1,q12R2.eq_1,q12R3.eq_1,q12R4.eq_1,q12R5.eq_1,q12R6.eq_1,q12R7.eq_1,q12R8.eq_1,q12R9.eq_1,q12R10.eq_1,q12R11.eq_1,q12R13.eq_1,q12R14.eq_1,q12R16.eq_1,q12R17.eq_1,q12R15.eq_1,q12R12.eq_1,q12R18.eq_1,q12R19.eq_1,q12R21.eq_1,q12R22.eq_1,q12R23.eq_1,q12R24.eq_1,q12R25.eq_1,q12R26.eq_1,q12R27.eq_1,q12R28.eq_1,q12R29.eq_1,q12R30.eq_1,q12R31.eq_1,q12R32.eq_1,q12R20.eq_1,q12R33.eq_1,c_law28_MergeBytes.eq_1])
theorem mb_r1 : aE G FT 0 mbP1 ⟨[(0, .data false 3 (pcs q) f), (3, .ptr 0 0 0 0), (4, .ptr 1 0 0 0)], [⟨1, 0, true, [[.int .i64 left]]⟩, ⟨1, 0, true, [[.bool false]]⟩]⟩ = some (.normal, ⟨[(0, .data false 3 (pcs q) f), (3, .ptr 0 0 0 0), (4, .ptr 1 0 0 0), (15, .bool false)], [⟨1, 0, true, [[.int .i64 left]]⟩, ⟨1, 0, true, [[.bool false]]⟩]⟩) := by
  unfold mbP1
  have hK := known28_P G
  (sym => simp [Qc,Qd,Qe,Qi,Qm,Qo,Qt,Xd,Y9,Za,Zb,Zc,Ze,Zg,Zh,Zo,Zt,Zv,Zw,Z3,Jj,Jk,Jr,Jv,Wd,Nw,Be,q12R0.eq_1,q12R1.eq_1,q12R2.eq_1,q12R3.eq_1,q12R4.eq_1,q12R5.eq_1,q12R6.eq_1,q12R7.eq_1,q12R8.eq_1,q12R9.eq_1,q12R10.eq_1,q12R11.eq_1,q12R13.eq_1,q12R14.eq_1,q12R16.eq_1,q12R17.eq_1,q12R15.eq_1,q12R12.eq_1,q12R18.eq_1,q12R19.eq_1,q12R21.eq_1,q12R22.eq_1,q12R23.eq_1,q12R24.eq_1,q12R25.eq_1,q12R26.eq_1,q12R27.eq_1,q12R28.eq_1,q12R29.eq_1,q12R30.eq_1,q12R31.eq_1,q12R32.eq_1,q12R20.eq_1,q12R33.eq_1,c_law28_MergeBytes.eq_1,hK])
theorem mb_r2t (hg : greatQ q = true) : aE G FT 0 mbP2 ⟨[(0, .data false 3 (pcs q) f), (3, .ptr 0 0 0 0), (4, .ptr 1 0 0 0), (15, .bool false)], [⟨1, 0, true, [[.int .i64 left]]⟩, ⟨1, 0, true, [[.bool false]]⟩]⟩ = some (.ret, ⟨[(4, .ptr 1 0 0 0)], [⟨1, 0, true, [[.int .i64 left]]⟩, ⟨1, 0, true, [[.bool true]]⟩]⟩) := by
  unfold mbP2
  have hK := fun b f => great_P G q b f
  rw [hg] at hK
  (sym => simp [Qb,Qd,Qe,Qi,Qj,Qm,Qn,Qo,Qr,Qt,Q5,Y9,Za,Zb,Zc,Zd,Ze,Zg,Zh,Zm,Zn,Zo,Zt,Zv,Zw,Zy,Z0,Z1,Jj,Jk,Jr,Jv,J4,V9,Wd,We,Hh,Hi,Hk,Hl,No,Be,q12R0.eq_1,q12R1.eq_1,q12R2.eq_1,q12R3.eq_1,q12R4.eq_1,q12R5.eq_1,q12R6.eq_1,q12R7.eq_1,q12R8.eq_1,q12R9.eq_1,q12R10.eq_1,q12R11.eq_1,q12R13.eq_1,q12R14.eq_1,q12R16.eq_1,q12R17.eq_1,q12R15.eq_1,q12R12.eq_1,q12R18.eq_1,q12R19.eq_1,q12R21.eq_1,q12R22.eq_1,q12R23.eq_1,q12R24.eq_1,q12R25.eq_1,q12R26.eq_1,q12R27.eq_1,q12R28.eq_1,q12R29.eq_1,q12R30.eq_1,q12R31.eq_1,q12R32.eq_1,q12R20.eq_1,q12R33.eq_1,c_law28_MergeBytes.eq_1,hK])
theorem mb_r2f (hg : greatQ q = false) : aE G FT 0 mbP2 ⟨[(0, .data false 3 (pcs q) f), (3, .ptr 0 0 0 0), (4, .ptr 1 0 0 0), (15, .bool false)], [⟨1, 0, true, [[.int .i64 left]]⟩, ⟨1, 0, true, [[.bool false]]⟩]⟩ = some (.normal, ⟨[(0, .data false 3 (pcs q) f), (3, .ptr 0 0 0 0), (4, .ptr 1 0 0 0), (17, .bool false)], [⟨1, 0, true, [[.int .i64 left]]⟩, ⟨1, 0, true, [[.bool false]]⟩]⟩) := by
  unfold mbP2
  have hK := fun b f => great_P G q b f
  rw [hg] at hK
  (sym => simp [Qc,Qd,Qe,Qi,Qm,Qn,Qo,Qr,Qt,Y9,Za,Zb,Zc,Ze,Zg,Zh,Zo,Zt,Zv,Zw,Z3,Jj,Jk,Jr,Jv,V9,Wd,We,Be,q12R0.eq_1,q12R1.eq_1,q12R2.eq_1,q12R3.eq_1,q12R4.eq_1,q12R5.eq_1,q12R6.eq_1,q12R7.eq_1,q12R8.eq_1,q12R9.eq_1,q12R10.eq_1,q12R11.eq_1,q12R13.eq_1,q12R14.eq_1,q12R16.eq_1,q12R17.eq_1,q12R15.eq_1,q12R12.eq_1,q12R18.eq_1,q12R19.eq_1,q12R21.eq_1,q12R22.eq_1,q12R23.eq_1,q12R24.eq_1,q12R25.eq_1,q12R26.eq_1,q12R27.eq_1,q12R28.eq_1,q12R29.eq_1,q12R30.eq_1,q12R31.eq_1,q12R32.eq_1,q12R20.eq_1,q12R33.eq_1,c_law28_MergeBytes.eq_1,hK])
theorem mb_r3 : aE G FT 0 mbP3 ⟨[(0, .data false 3 (pcs q) f), (3, .ptr 0 0 0 0), (4, .ptr 1 0 0 0), (17, .bool false)], [⟨1, 0, true, [[.int .i64 left]]⟩, ⟨1, 0, true, [[.bool false]]⟩]⟩ = some (.normal, ⟨[(0, .data false 3 (pcs q) f), (3, .ptr 0 0 0 0), (4, .ptr 1 0 0 0), (5, .fn (.func n_merge_Bytes_1) [] [.ptr 2 0 0 0])], [⟨1, 0, true, [[.int .i64 left]]⟩, ⟨1, 0, true, [[.bool false]]⟩, ⟨1, 0, true, [[.data false 3 (pcs q) f]]⟩]⟩) := by
  unfold mbP3
  (sym => simp [Qb,Qd,Qe,Qi,Qj,Qm,Qn,Qo,Qr,Qw,Xj,Yn,Y1,Y5,Y7,Y9,Za,Zb,Zc,Ze,Zg,Zh,Zi,Zj,Zk,Zl,Zm,Zn,Zq,Zr,Zs,Zt,Zu,Zv,Zw,Jj,Jk,Jv,Jx,Ue,Uf,Ul,Hu,Hv,No,Nx,Be,q12R0.eq_1,q12R1.eq_1,q12R2.eq_1,q12R3.eq_1,q12R4.eq_1,q12R5.eq_1,q12R6.eq_1,q12R7.eq_1,q12R8.eq_1,q12R9.eq_1,q12R10.eq_1,q12R11.eq_1,q12R13.eq_1,q12R14.eq_1,q12R16.eq_1,q12R17.eq_1,q12R15.eq_1,q12R12.eq_1,q12R18.eq_1,q12R19.eq_1,q12R21.eq_1,q12R22.eq_1,q12R23.eq_1,q12R24.eq_1,q12R25.eq_1,q12R26.eq_1,q12R27.eq_1,q12R28.eq_1,q12R29.eq_1,q12R30.eq_1,q12R31.eq_1,q12R32.eq_1,q12R20.eq_1,q12R33.eq_1,c_law28_MergeBytes.eq_1,run_merge_Bytes,q18R0.eq_1,q18R1.eq_1,c_merge_Bytes.eq_1])
theorem mb_r4 : aE G FT 0 mbP4 ⟨[(0, .data false 3 (pcs q) f), (3, .ptr 0 0 0 0), (4, .ptr 1 0 0 0), (5, .fn (.func n_merge_Bytes_1) [] [.ptr 2 0 0 0])], [⟨1, 0, true, [[.int .i64 left]]⟩, ⟨1, 0, true, [[.bool false]]⟩, ⟨1, 0, true, [[.data false 3 (pcs q) f]]⟩]⟩ = some (.normal, ⟨[(0, .data false 3 (pcs q) f), (3, .ptr 0 0 0 0), (4, .ptr 1 0 0 0), (5, .fn (.func n_merge_Bytes_1) [] [.ptr 2 0 0 0]), (21, .bool false)], [⟨1, 0, true, [[.int .i64 left]]⟩, ⟨1, 0, true, [[.bool false]]⟩, ⟨1, 0, true, [[.data false 3 (pcs q) f]]⟩]⟩) := by
  unfold mbP4
  (sym => simp [Qc,Qd,Qe,Qi,Qr,Qt,Xc,Y9,Za,Zb,Zc,Ze,Zg,Zh,Zt,Zv,Zw,Z3,Jh,Jj,Jk,Jr,Jv,Kq,Be,q12R0.eq_1,q12R1.eq_1,q12R2.eq_1,q12R3.eq_1,q12R4.eq_1,q12R5.eq_1,q12R6.eq_1,q12R7.eq_1,q12R8.eq_1,q12R9.eq_1,q12R10.eq_1,q12R11.eq_1,q12R13.eq_1,q12R14.eq_1,q12R16.eq_1,q12R17.eq_1,q12R15.eq_1,q12R12.eq_1,q12R18.eq_1,q12R19.eq_1,q12R21.eq_1,q12R22.eq_1,q12R23.eq_1,q12R24.eq_1,q12R25.eq_1,q12R26.eq_1,q12R27.eq_1,q12R28.eq_1,q12R29.eq_1,q12R30.eq_1,q12R31.eq_1,q12R32.eq_1,q12R20.eq_1,q12R33.eq_1,c_law28_MergeBytes.eq_1])
theorem mb_r5 : aE G FT 0 mbP5 ⟨[(0, .data false 3 (pcs q) f), (3, .ptr 0 0 0 0), (4, .ptr 1 0 0 0), (5, .fn (.func n_merge_Bytes_1) [] [.ptr 2 0 0 0]), (21, .bool false)], [⟨1, 0, true, [[.int .i64 left]]⟩, ⟨1, 0, true, [[.bool false]]⟩, ⟨1, 0, true, [[.data false 3 (pcs q) f]]⟩]⟩ = some (.normal, ⟨[(0, .data false 3 (pcs q) f), (3, .ptr 0 0 0 0), (4, .ptr 1 0 0 0), (5, .fn (.func n_merge_Bytes_1) [] [.ptr 2 0 0 0]), (6, .ptr 3 0 0 0)], [⟨1, 0, true, [[.int .i64 left]]⟩, ⟨1, 0, true, [[.bool false]]⟩, ⟨1, 0, true, [[.data false 3 (pcs q) f]]⟩, ⟨1, 0, true, [[.data false 1 [] true]]⟩]⟩) := by
  unfold mbP5
  (sym => simp [Qd,Qe,Qv,Y9,Za,Zb,Zc,Ze,Zg,Zh,Zm,Zn,Zv,Zw,Jv,Ue,Uf,Ul,Hu,Hv,No,Nx,Be,q12R0.eq_1,q12R1.eq_1,q12R2.eq_1,q12R3.eq_1,q12R4.eq_1,q12R5.eq_1,q12R6.eq_1,q12R7.eq_1,q12R8.eq_1,q12R9.eq_1,q12R10.eq_1,q12R11.eq_1,q12R13.eq_1,q12R14.eq_1,q12R16.eq_1,q12R17.eq_1,q12R15.eq_1,q12R12.eq_1,q12R18.eq_1,q12R19.eq_1,q12R21.eq_1,q12R22.eq_1,q12R23.eq_1,q12R24.eq_1,q12R25.eq_1,q12R26.eq_1,q12R27.eq_1,q12R28.eq_1,q12R29.eq_1,q12R30.eq_1,q12R31.eq_1,q12R32.eq_1,q12R20.eq_1,q12R33.eq_1,c_law28_MergeBytes.eq_1])
theorem mb_r6 : aE G FT 0 mbP6 ⟨[(0, .data false 3 (pcs q) f), (3, .ptr 0 0 0 0), (4, .ptr 1 0 0 0), (5, .fn (.func n_merge_Bytes_1) [] [.ptr 2 0 0 0]), (6, .ptr 3 0 0 0)], [⟨1, 0, true, [[.int .i64 left]]⟩, ⟨1, 0, true, [[.bool false]]⟩, ⟨1, 0, true, [[.data false 3 (pcs q) f]]⟩, ⟨1, 0, true, [[.data false 1 [] true]]⟩]⟩ = some (.normal, ⟨[(0, .data false 3 (pcs q) f), (3, .ptr 0 0 0 0), (4, .ptr 1 0 0 0), (5, .fn (.func n_merge_Bytes_1) [] [.ptr 2 0 0 0]), (6, .ptr 3 0 0 0), (7, .ptr 4 0 0 0)], [⟨1, 0, true, [[.int .i64 left]]⟩, ⟨1, 0, true, [[.bool false]]⟩, ⟨1, 0, true, [[.data false 3 (pcs q) f]]⟩, ⟨1, 0, true, [[.data false 1 [] true]]⟩, ⟨1, 0, true, [[.data false 1 [] true]]⟩]⟩) := by
  unfold mbP6
  (sym => simp [Qd,Qe,Qv,Y9,Za,Zb,Zc,Ze,Zg,Zh,Zm,Zn,Zv,Zw,Jv,Ue,Uf,Ul,Hu,Hv,No,Nx,Be,q12R0.eq_1,q12R1.eq_1,q12R2.eq_1,q12R3.eq_1,q12R4.eq_1,q12R5.eq_1,q12R6.eq_1,q12R7.eq_1,q12R8.eq_1,q12R9.eq_1,q12R10.eq_1,q12R11.eq_1,q12R13.eq_1,q12R14.eq_1,q12R16.eq_1,q12R17.eq_1,q12R15.eq_1,q12R12.eq_1,q12R18.eq_1,q12R19.eq_1,q12R21.eq_1,q12R22.eq_1,q12R23.eq_1,q12R24.eq_1,q12R25.eq_1,q12R26.eq_1,q12R27.eq_1,q12R28.eq_1,q12R29.eq_1,q12R30.eq_1,q12R31.eq_1,q12R32.eq_1,q12R20.eq_1,q12R33.eq_1,c_law28_MergeBytes.eq_1])
theorem mb_r7 (hg : greatQ q = false) : ∃ i : Int, aE G FT 0 mbP7 ⟨[(0, .data false 3 (pcs q) f), (3, .ptr 0 0 0 0), (4, .ptr 1 0 0 0), (5, .fn (.func n_merge_Bytes_1) [] [.ptr 2 0 0 0]), (6, .ptr 3 0 0 0), (7, .ptr 4 0 0 0)], [⟨1, 0, true, [[.int .i64 left]]⟩, ⟨1, 0, true, [[.bool false]]⟩, ⟨1, 0, true, [[.data false 3 (pcs q) f]]⟩, ⟨1, 0, true, [[.data false 1 [] true]]⟩, ⟨1, 0, true, [[.data false 1 [] true]]⟩]⟩ = some (.normal, ⟨[(0, .data false 3 (pcs q) f), (3, .ptr 0 0 0 0), (4, .ptr 1 0 0 0), (5, .fn (.func n_merge_Bytes_1) [] [.ptr 2 0 0 0]), (6, .ptr 3 0 0 0), (7, .ptr 4 0 0 0), (8, .int .i64 i), (29, .bool false)], hpB left q f (if mayQ 0 q = true then pairs q else [])⟩) := by
  obtain ⟨hl, hok⟩ := great_ok hg
  have hm := fun b f => mrmay28_P G q b f hok
  have hln := pcs_len q
  unfold mbP7
  cases h : mayQ 0 q with
  | true =>
    rw [h] at hm
    have hb : ∀ x ∈ q, x.2.2.1.length ≤ 100 := greatQ_len hg
    have hf := fill_out G q f left hl hb hm q.length 0 (by omega)
    rw [List.take_zero] at hf
    simp only [Int.natCast_zero] at hf
    refine ⟨q.length, ?_⟩
    rw [if_pos rfl]
    have e : pairs [] = [] := rfl
    rw [e] at hf
    have hf2 := hf _ (show agc 0 [0, 3, 4, 5, 6, 7, 8] ⟨[(0, .data false 3 (pcs q) f), (3, .ptr 0 0 0 0), (4, .ptr 1 0 0 0), (5, .fn (.func n_merge_Bytes_1) [] [.ptr 2 0 0 0]), (6, .ptr 3 0 0 0), (7, .ptr 4 0 0 0), (8, .int .i64 0)], [⟨1, 0, true, [[.int .i64 left]]⟩, ⟨1, 0, true, [[.bool false]]⟩, ⟨1, 0, true, [[.data false 3 (pcs q) f]]⟩, ⟨1, 0, true, [[.data false 1 [] true]]⟩, ⟨1, 0, true, [[.data false 1 [] true]]⟩]⟩ = _ from by simp only [hpB]; (sym => simp [Qa,Qd,Qe,Qf,Qg,Qi,Qj,Qm,Qn,Qo,Qr,Qt,Qu,Xa,Xy,Ya,Yh,Y9,Za,Zb,Zc,Ze,Zg,Zh,Zk,Zl,Zm,Zn,Zo,Zt,Zv,Zw,Zx,Zy,Zz,Z0,Z3,Ja,Jj,Jk,Jm,Jn,Jq,Jr,Ju,Jv,Ut,Uw,Ux,U0,U4,U5,U7,Va,Vb,Ve,Vi,Vj,Vk,Vm,Vo,Vp,Vq,Vr,Vs,Vt,Vu,Vv,Vw,Vx,Vy,Vz,V0,V9,Wd,We,Hh,Hi,Hp,Hu,Hv,Hw,H1,H4,H5,H6,Nl,Nm,No,Nu,Nx,Be]))
    generalize hpB left q f (pairs q) = X at hf2
    (sym => simp [Qa,Qd,Qe,Qf,Qg,Qi,Qj,Qm,Qn,Qo,Qr,Qt,Qu,Xa,Xy,Ya,Yh,Y9,Za,Zb,Zc,Ze,Zg,Zh,Zk,Zl,Zm,Zn,Zo,Zt,Zv,Zw,Zx,Zy,Zz,Z0,Z3,Ja,Jj,Jk,Jm,Jn,Jq,Jr,Ju,Jv,Ut,Uw,Ux,U0,U4,U5,U7,Va,Vb,Ve,Vi,Vj,Vk,Vm,Vo,Vp,Vq,Vr,Vs,Vt,Vu,Vv,Vw,Vx,Vy,Vz,V0,V9,Wd,We,Hh,Hi,Hp,Hu,Hv,Hw,H1,H4,H5,H6,Nl,Nm,No,Nu,Nx,Be,q12R0.eq_1,q12R1.eq_1,q12R2.eq_1,q12R3.eq_1,q12R4.eq_1,q12R5.eq_1,q12R6.eq_1,q12R7.eq_1,q12R8.eq_1,q12R9.eq_1,q12R10.eq_1,q12R11.eq_1,q12R13.eq_1,q12R14.eq_1,q12R16.eq_1,q12R17.eq_1,q12R15.eq_1,q12R12.eq_1,q12R18.eq_1,q12R19.eq_1,q12R21.eq_1,q12R22.eq_1,q12R23.eq_1,q12R24.eq_1,q12R25.eq_1,q12R26.eq_1,q12R27.eq_1,q12R28.eq_1,q12R29.eq_1,q12R30.eq_1,q12R31.eq_1,q12R32.eq_1,q12R20.eq_1,q12R33.eq_1,c_law28_MergeBytes.eq_1,hf2])
  | false =>
    rw [h] at hm
    refine ⟨0, ?_⟩
    rw [if_neg (by simp)]
    simp only [hpB]
    have hlp : aE G FT 0 lp_law28_MergeBytes_0 ⟨[(0, .data false 3 (pcs q) f), (3, .ptr 0 0 0 0), (4, .ptr 1 0 0 0), (5, .fn (.func n_merge_Bytes_1) [] [.ptr 2 0 0 0]), (6, .ptr 3 0 0 0), (7, .ptr 4 0 0 0), (8, .int .i64 0)], [⟨1, 0, true, [[.int .i64 left]]⟩, ⟨1, 0, true, [[.bool false]]⟩, ⟨1, 0, true, [[.data false 3 (pcs q) f]]⟩, ⟨1, 0, true, [[.data false 1 [] true]]⟩, ⟨1, 0, true, [[.data false 1 [] true]]⟩]⟩ = some (.exit 0, ⟨[(0, .data false 3 (pcs q) f), (3, .ptr 0 0 0 0), (4, .ptr 1 0 0 0), (5, .fn (.func n_merge_Bytes_1) [] [.ptr 2 0 0 0]), (6, .ptr 3 0 0 0), (7, .ptr 4 0 0 0), (8, .int .i64 0), (29, .bool false)], [⟨1, 0, true, [[.int .i64 left]]⟩, ⟨1, 0, true, [[.bool false]]⟩, ⟨1, 0, true, [[.data false 3 (pcs q) f]]⟩, ⟨1, 0, true, [[.data false 1 [] true]]⟩, ⟨1, 0, true, [[.data false 1 [] true]]⟩]⟩) := by
      have hg0 : agc 0 [0, 3, 4, 5, 6, 7, 8] ⟨[(0, .data false 3 (pcs q) f), (3, .ptr 0 0 0 0), (4, .ptr 1 0 0 0), (5, .fn (.func n_merge_Bytes_1) [] [.ptr 2 0 0 0]), (6, .ptr 3 0 0 0), (7, .ptr 4 0 0 0), (8, .int .i64 0)], [⟨1, 0, true, [[.int .i64 left]]⟩, ⟨1, 0, true, [[.bool false]]⟩, ⟨1, 0, true, [[.data false 3 (pcs q) f]]⟩, ⟨1, 0, true, [[.data false 1 [] true]]⟩, ⟨1, 0, true, [[.data false 1 [] true]]⟩]⟩ = some ⟨[(0, .data false 3 (pcs q) f), (3, .ptr 0 0 0 0), (4, .ptr 1 0 0 0), (5, .fn (.func n_merge_Bytes_1) [] [.ptr 2 0 0 0]), (6, .ptr 3 0 0 0), (7, .ptr 4 0 0 0), (8, .int .i64 0)], [⟨1, 0, true, [[.int .i64 left]]⟩, ⟨1, 0, true, [[.bool false]]⟩, ⟨1, 0, true, [[.data false 3 (pcs q) f]]⟩, ⟨1, 0, true, [[.data false 1 [] true]]⟩, ⟨1, 0, true, [[.data false 1 [] true]]⟩]⟩ := by (sym => simp [Qa,Qd,Qe,Qf,Qg,Qi,Qj,Qm,Qn,Qo,Qr,Qt,Qu,Xa,Xy,Ya,Yh,Y9,Za,Zb,Zc,Ze,Zg,Zh,Zk,Zl,Zm,Zn,Zo,Zt,Zv,Zw,Zx,Zy,Zz,Z0,Z3,Ja,Jj,Jk,Jm,Jn,Jq,Jr,Ju,Jv,Ut,Uw,Ux,U0,U4,U5,U7,Va,Vb,Ve,Vi,Vj,Vk,Vm,Vo,Vp,Vq,Vr,Vs,Vt,Vu,Vv,Vw,Vx,Vy,Vz,V0,V9,Wd,We,Hh,Hi,Hp,Hu,Hv,Hw,H1,H4,H5,H6,Nl,Nm,No,Nu,Nx,Be])
      rw [lp_law28_MergeBytes_0, y_loop, hg0]
      by_cases hn : (0 : Int) < q.length
      · (sym => simp [Qa,Qd,Qe,Qf,Qg,Qi,Qj,Qm,Qn,Qo,Qr,Qt,Qu,Xa,Xy,Ya,Yh,Y9,Za,Zb,Zc,Ze,Zg,Zh,Zk,Zl,Zm,Zn,Zo,Zt,Zv,Zw,Zx,Zy,Zz,Z0,Z3,Ja,Jj,Jk,Jm,Jn,Jq,Jr,Ju,Jv,Ut,Uw,Ux,U0,U4,U5,U7,Va,Vb,Ve,Vi,Vj,Vk,Vm,Vo,Vp,Vq,Vr,Vs,Vt,Vu,Vv,Vw,Vx,Vy,Vz,V0,V9,Wd,We,Hh,Hi,Hp,Hu,Hv,Hw,H1,H4,H5,H6,Nl,Nm,No,Nu,Nx,Be,q12R0.eq_1,q12R1.eq_1,q12R2.eq_1,q12R3.eq_1,q12R4.eq_1,q12R5.eq_1,q12R6.eq_1,q12R7.eq_1,q12R8.eq_1,q12R9.eq_1,q12R10.eq_1,q12R11.eq_1,q12R13.eq_1,q12R14.eq_1,q12R16.eq_1,q12R17.eq_1,q12R15.eq_1,q12R12.eq_1,q12R18.eq_1,q12R19.eq_1,q12R21.eq_1,q12R22.eq_1,q12R23.eq_1,q12R24.eq_1,q12R25.eq_1,q12R26.eq_1,q12R27.eq_1,q12R28.eq_1,q12R29.eq_1,q12R30.eq_1,q12R31.eq_1,q12R32.eq_1,q12R20.eq_1,q12R33.eq_1,c_law28_MergeBytes.eq_1,c_law28_MergeBytes_L0.eq_1,hm,hln,hn])
      · (sym => simp [Qa,Qd,Qe,Qf,Qg,Qi,Qj,Qm,Qn,Qo,Qr,Qt,Qu,Xa,Xy,Ya,Yh,Y9,Za,Zb,Zc,Ze,Zg,Zh,Zk,Zl,Zm,Zn,Zo,Zt,Zv,Zw,Zx,Zy,Zz,Z0,Z3,Ja,Jj,Jk,Jm,Jn,Jq,Jr,Ju,Jv,Ut,Uw,Ux,U0,U4,U5,U7,Va,Vb,Ve,Vi,Vj,Vk,Vm,Vo,Vp,Vq,Vr,Vs,Vt,Vu,Vv,Vw,Vx,Vy,Vz,V0,V9,Wd,We,Hh,Hi,Hp,Hu,Hv,Hw,H1,H4,H5,H6,Nl,Nm,No,Nu,Nx,Be,q12R0.eq_1,q12R1.eq_1,q12R2.eq_1,q12R3.eq_1,q12R4.eq_1,q12R5.eq_1,q12R6.eq_1,q12R7.eq_1,q12R8.eq_1,q12R9.eq_1,q12R10.eq_1,q12R11.eq_1,q12R13.eq_1,q12R14.eq_1,q12R16.eq_1,q12R17.eq_1,q12R15.eq_1,q12R12.eq_1,q12R18.eq_1,q12R19.eq_1,q12R21.eq_1,q12R22.eq_1,q12R23.eq_1,q12R24.eq_1,q12R25.eq_1,q12R26.eq_1,q12R27.eq_1,q12R28.eq_1,q12R29.eq_1,q12R30.eq_1,q12R31.eq_1,q12R32.eq_1,q12R20.eq_1,q12R33.eq_1,c_law28_MergeBytes.eq_1,c_law28_MergeBytes_L0.eq_1,hm,hln,hn])
    (sym => simp [Qa,Qd,Qe,Qf,Qg,Qi,Qj,Qm,Qn,Qo,Qr,Qt,Qu,Xa,Xy,Ya,Yh,Y9,Za,Zb,Zc,Ze,Zg,Zh,Zk,Zl,Zm,Zn,Zo,Zt,Zv,Zw,Zx,Zy,Zz,Z0,Z3,Ja,Jj,Jk,Jm,Jn,Jq,Jr,Ju,Jv,Ut,Uw,Ux,U0,U4,U5,U7,Va,Vb,Ve,Vi,Vj,Vk,Vm,Vo,Vp,Vq,Vr,Vs,Vt,Vu,Vv,Vw,Vx,Vy,Vz,V0,V9,Wd,We,Hh,Hi,Hp,Hu,Hv,Hw,H1,H4,H5,H6,Nl,Nm,No,Nu,Nx,Be,q12R0.eq_1,q12R1.eq_1,q12R2.eq_1,q12R3.eq_1,q12R4.eq_1,q12R5.eq_1,q12R6.eq_1,q12R7.eq_1,q12R8.eq_1,q12R9.eq_1,q12R10.eq_1,q12R11.eq_1,q12R13.eq_1,q12R14.eq_1,q12R16.eq_1,q12R17.eq_1,q12R15.eq_1,q12R12.eq_1,q12R18.eq_1,q12R19.eq_1,q12R21.eq_1,q12R22.eq_1,q12R23.eq_1,q12R24.eq_1,q12R25.eq_1,q12R26.eq_1,q12R27.eq_1,q12R28.eq_1,q12R29.eq_1,q12R30.eq_1,q12R31.eq_1,q12R32.eq_1,q12R20.eq_1,q12R33.eq_1,c_law28_MergeBytes.eq_1,hlp])
end
end Go.Proofs.Ytfnonledcniojaa
