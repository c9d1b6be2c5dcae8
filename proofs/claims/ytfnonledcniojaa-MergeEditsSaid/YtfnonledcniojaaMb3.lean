/- MergeBytes: the parts ahead of the turns. Conditions: none. -/
import Derived.Test.YtfnonledcniojaaMb2
set_option linter.unusedVariables false
set_option linter.unusedSimpArgs false
set_option linter.unusedSectionVars false
set_option maxRecDepth 20000
set_option maxHeartbeats 4000000
namespace Go.Proofs.Ytfnonledcniojaa
open Go
section
variable (G : Nat → Option (List AV))
theorem mrpiece_P (m a : Int) (L : List (List AV)) (b f : Bool) : aP G FT n_ref28_Piece [.agg [.int .i64 m, .int .i64 a, .data b 1 L f]] = some (.bool (pieceB m a L.length)) := by
  have p1 : (0 : Int) < m ↔ 1 ≤ m := by omega
  have p2 : m < 9 ↔ m ≤ 8 := by omega
  have p3 : (0 : Int) < a ↔ 1 ≤ a := by omega
  have p4 : (0 : Int) < L.length ↔ (1 : Int) ≤ L.length := by omega
  have p5 : (L.length : Int) < 17 ↔ (L.length : Int) ≤ 16 := by omega
  unfold aP pieceB
  rw [run_ref28_Piece]
  cases b
  all_goals
    by_cases h1 : 1 ≤ m
    · by_cases h2 : m ≤ 8
      · by_cases h3 : 1 ≤ a
        · by_cases h4 : a ≤ 1073741824
          · by_cases h5 : (1 : Int) ≤ L.length
            · by_cases h6 : (L.length : Int) ≤ 16
              · (sym => simp [Qb,Qd,Qe,Qf,Qg,Qi,Qj,Qr,Qt,Qu,Qw,Q4,Xa,Xp,Xy,Ya,Yb,Yc,Yh,Yj,Yr,Yt,Yv,Y1,Y5,Y7,Y9,Za,Zb,Zc,Ze,Zg,Zh,Zi,Zj,Zk,Zl,Zm,Zn,Zr,Zs,Zt,Zu,Zv,Zw,Zy,Z0,Z3,Ja,Jj,Jk,Jv,Jx,Ue,Uf,Ug,Ul,Wk,Hh,Hi,Hv,Nl,Nm,No,Nq,Nr,Nw,Nx,Be,q48R0.eq_1,q48R1.eq_1,c_ref28_Piece.eq_1,p1,p2,p3,p4,p5,h1,h2,h3,h4,h5,h6])
              · (sym => simp [Qb,Qd,Qe,Qf,Qg,Qi,Qj,Qr,Qt,Qu,Qw,Q4,Xa,Xp,Xy,Ya,Yb,Yc,Yh,Yj,Yr,Yt,Yv,Y1,Y5,Y7,Y9,Za,Zb,Zc,Ze,Zg,Zh,Zi,Zj,Zk,Zl,Zm,Zn,Zr,Zs,Zt,Zu,Zv,Zw,Zy,Z0,Z3,Ja,Jj,Jk,Jv,Jx,Ue,Uf,Ug,Ul,Wk,Hh,Hi,Hv,Nl,Nm,No,Nq,Nr,Nw,Nx,Be,q48R0.eq_1,q48R1.eq_1,c_ref28_Piece.eq_1,p1,p2,p3,p4,p5,h1,h2,h3,h4,h5,h6])
            · (sym => simp [Qb,Qd,Qe,Qf,Qg,Qi,Qj,Qr,Qt,Qu,Qw,Q4,Xa,Xp,Xy,Ya,Yb,Yc,Yh,Yj,Yr,Yt,Yv,Y1,Y5,Y7,Y9,Za,Zb,Zc,Ze,Zg,Zh,Zi,Zj,Zk,Zl,Zm,Zn,Zr,Zs,Zt,Zu,Zv,Zw,Zy,Z0,Z3,Ja,Jj,Jk,Jv,Jx,Ue,Uf,Ug,Ul,Wk,Hh,Hi,Hv,Nl,Nm,No,Nq,Nr,Nw,Nx,Be,q48R0.eq_1,q48R1.eq_1,c_ref28_Piece.eq_1,p1,p2,p3,p4,p5,h1,h2,h3,h4,h5])
          · (sym => simp [Qb,Qd,Qe,Qf,Qg,Qi,Qj,Qr,Qt,Qu,Qw,Q4,Xa,Xp,Xy,Ya,Yb,Yc,Yh,Yj,Yr,Yt,Yv,Y1,Y5,Y7,Y9,Za,Zb,Zc,Ze,Zg,Zh,Zi,Zj,Zk,Zl,Zm,Zn,Zr,Zs,Zt,Zu,Zv,Zw,Zy,Z0,Z3,Ja,Jj,Jk,Jv,Jx,Ue,Uf,Ug,Ul,Wk,Hh,Hi,Hv,Nl,Nm,No,Nq,Nr,Nw,Nx,Be,q48R0.eq_1,q48R1.eq_1,c_ref28_Piece.eq_1,p1,p2,p3,p4,p5,h1,h2,h3,h4])
        · (sym => simp [Qb,Qd,Qe,Qf,Qg,Qi,Qj,Qr,Qt,Qu,Qw,Q4,Xa,Xp,Xy,Ya,Yb,Yc,Yh,Yj,Yr,Yt,Yv,Y1,Y5,Y7,Y9,Za,Zb,Zc,Ze,Zg,Zh,Zi,Zj,Zk,Zl,Zm,Zn,Zr,Zs,Zt,Zu,Zv,Zw,Zy,Z0,Z3,Ja,Jj,Jk,Jv,Jx,Ue,Uf,Ug,Ul,Wk,Hh,Hi,Hv,Nl,Nm,No,Nq,Nr,Nw,Nx,Be,q48R0.eq_1,q48R1.eq_1,c_ref28_Piece.eq_1,p1,p2,p3,p4,p5,h1,h2,h3])
      · (sym => simp [Qb,Qd,Qe,Qf,Qg,Qi,Qj,Qr,Qt,Qu,Qw,Q4,Xa,Xp,Xy,Ya,Yb,Yc,Yh,Yj,Yr,Yt,Yv,Y1,Y5,Y7,Y9,Za,Zb,Zc,Ze,Zg,Zh,Zi,Zj,Zk,Zl,Zm,Zn,Zr,Zs,Zt,Zu,Zv,Zw,Zy,Z0,Z3,Ja,Jj,Jk,Jv,Jx,Ue,Uf,Ug,Ul,Wk,Hh,Hi,Hv,Nl,Nm,No,Nq,Nr,Nw,Nx,Be,q48R0.eq_1,q48R1.eq_1,c_ref28_Piece.eq_1,p1,p2,p3,p4,p5,h1,h2])
    · (sym => simp [Qb,Qd,Qe,Qf,Qg,Qi,Qj,Qr,Qt,Qu,Qw,Q4,Xa,Xp,Xy,Ya,Yb,Yc,Yh,Yj,Yr,Yt,Yv,Y1,Y5,Y7,Y9,Za,Zb,Zc,Ze,Zg,Zh,Zi,Zj,Zk,Zl,Zm,Zn,Zr,Zs,Zt,Zu,Zv,Zw,Zy,Z0,Z3,Ja,Jj,Jk,Jv,Jx,Ue,Uf,Ug,Ul,Wk,Hh,Hi,Hv,Nl,Nm,No,Nq,Nr,Nw,Nx,Be,q48R0.eq_1,q48R1.eq_1,c_ref28_Piece.eq_1,p1,p2,p3,p4,p5,h1])
theorem mrsize_loop (q : List Pc) (b f : Bool) (hl : q.length ≤ 1000) (hz : sizeQ q ≤ 1000000) : ∀ (m i : Nat), i + m = q.length →
    aE G FT 0 lp_ref28_Size_0 ⟨[(0, .data b 3 (pcs q) f), (3, .int .i64 (sizeQ (q.take i) : Nat)), (4, .int .i64 i)], []⟩ =
      some (.exit 0, ⟨[(0, .data b 3 (pcs q) f), (3, .int .i64 (sizeQ q : Nat)), (4, .int .i64 q.length), (8, .bool false)], []⟩) := by
  have hln := pcs_len q
  intro m
  induction m with
  | zero =>
    intro i hi
    rw [lp_ref28_Size_0, y_loop]
    obtain rfl : i = q.length := by omega
    have e0 : decide ((q.length : Int) < q.length) = false := by simp
    rw [List.take_length]
    (sym => simp [Qa,Qc,Qd,Qe,Qi,Qj,Qr,Qt,Q4,Xa,Xp,Xs,Xy,X5,Ya,Yh,Ys,Yt,Yw,Yy,Y9,Za,Zb,Zc,Ze,Zg,Zh,Zk,Zl,Zt,Zv,Zw,Z3,Jj,Jk,Jm,Jn,Jo,Jr,Js,Ju,Jv,Ux,U0,U4,U5,Vb,Ve,Vo,Vq,Vr,Vt,Vv,Vw,Vy,Vz,V0,Hh,Hq,Hr,Hs,Hw,H1,Ni,Nk,Nl,No,Be,Ma,Mb,Md,Me,Mf,q50R0.eq_1,q50R1.eq_1,q50R2.eq_1,q50R3.eq_1,q50R5.eq_1,q50R4.eq_1,q50R6.eq_1,c_ref28_Size.eq_1,c_ref28_Size_L0.eq_1,e0,hln])
  | succ m ih =>
    intro i hi
    have hlt : i < q.length := by omega
    have hlt' : (i : Int) < q.length := by omega
    have hw := wrap_nat (n := i) (by omega)
    have hg := pcs_at hlt
    have hbl := byt_len q[i].2.2.1
    have e : sizeQ (q.take (i + 1)) = sizeQ (q.take i) + q[i].2.2.1.length := by
      have e1 : q.take (i + 1) = q.take i ++ [q[i]] := by rw [List.take_add_one, List.getElem?_eq_getElem hlt]; rfl
      rw [e1, sizeQ_app]; simp [sizeQ]
    have hle : sizeQ (q.take (i + 1)) ≤ sizeQ q := by have := sizeQ_split q (i + 1); omega
    have ih := ih (i + 1) (by omega)
    rw [e] at ih hle
    have hw2 : IntKind.i64.wrap ((sizeQ (q.take i) : Int) + q[i].2.2.1.length) = ((sizeQ (q.take i) + q[i].2.2.1.length : Nat) : Int) := by rw [wrap_in _ (by omega) (by omega)]; omega
    rw [lp_ref28_Size_0] at ih
    rw [← ih, lp_ref28_Size_0, y_loop]
    (sym => simp [Qa,Qc,Qd,Qe,Qi,Qj,Qr,Qt,Q4,Xa,Xp,Xs,Xy,X5,Ya,Yh,Ys,Yt,Yw,Yy,Y9,Za,Zb,Zc,Ze,Zg,Zh,Zk,Zl,Zt,Zv,Zw,Z3,Jj,Jk,Jm,Jn,Jo,Jr,Js,Ju,Jv,Ux,U0,U4,U5,Vb,Ve,Vo,Vq,Vr,Vt,Vv,Vw,Vy,Vz,V0,Hh,Hq,Hr,Hs,Hw,H1,Ni,Nk,Nl,No,Be,Ma,Mb,Md,Me,Mf,q50R0.eq_1,q50R1.eq_1,q50R2.eq_1,q50R3.eq_1,q50R5.eq_1,q50R4.eq_1,q50R6.eq_1,c_ref28_Size.eq_1,c_ref28_Size_L0.eq_1,hlt',hg,hln,hbl,hw,hw2])
theorem mrsize_P (q : List Pc) (b f : Bool) (h : okL q) : aP G FT n_ref28_Size [.data b 3 (pcs q) f] = some (.int .i64 (sizeQ q : Nat)) := by
  have hz := sizeQ_le q h.2
  have h1 := h.1
  have key := mrsize_loop G q b f h.1 (by omega) q.length 0 (by omega)
  have e : sizeQ (q.take 0) = 0 := rfl
  rw [e] at key
  simp only [Int.natCast_zero] at key
  unfold aP
  rw [run_ref28_Size]
  (sym => simp [Qb,Qd,Qe,Qi,Qj,Qr,Y1,Y5,Y7,Y9,Za,Zb,Zc,Ze,Zg,Zh,Zi,Zj,Zk,Zl,Zm,Zr,Zs,Zt,Zu,Zv,Zw,Jj,Jk,Jn,Jq,Jv,Jx,Wj,Be,q50R0.eq_1,q50R1.eq_1,q50R2.eq_1,q50R3.eq_1,q50R5.eq_1,q50R4.eq_1,q50R6.eq_1,c_ref28_Size.eq_1,key])
theorem mrmay28_loop (q : List Pc) (b f : Bool) (hl : q.length ≤ 1000) : ∀ (m i : Nat), i + m = q.length →
    aE G FT 0 lp_ref28_May_0 ⟨[(0, .data b 3 (pcs q) f), (3, .int .i64 i)], []⟩ = if ((q.drop i).all pcB) = true then some (.exit 0, ⟨[(0, .data b 3 (pcs q) f), (3, .int .i64 q.length), (7, .bool false)], []⟩) else some (.ret, ⟨[(2, .bool false)], []⟩) := by
  have hln := pcs_len q
  intro m
  induction m with
  | zero =>
    intro i hi
    rw [lp_ref28_May_0, y_loop]
    have e : q.drop i = [] := List.drop_eq_nil_of_le (by omega)
    obtain rfl : i = q.length := by omega
    have e0 : decide ((q.length : Int) < q.length) = false := by simp
    rw [e, List.all_nil, if_pos rfl]
    (sym => simp [Qa,Qb,Qc,Qd,Qe,Qi,Qj,Qm,Qn,Qo,Qr,Qt,Q4,Xa,Xd,Xs,Xy,X5,Ya,Yh,Ys,Yu,Yy,Y9,Za,Zb,Zc,Ze,Zg,Zh,Zk,Zl,Zm,Zn,Zo,Zt,Zv,Zw,Z3,Jj,Jk,Jl,Jm,Jn,Jo,Jp,Jr,Js,Jt,Ju,Jv,Ux,U0,U4,U5,Vb,Ve,Vo,Vq,Vr,Vt,Vv,Vw,Vy,Vz,V0,V3,V6,V9,Wd,We,Ho,Hq,Hs,Hw,H1,Ni,Nk,Nl,No,Nw,Nx,Be,Ma,Mb,Md,Me,Mf,q47R0.eq_1,q47R1.eq_1,q47R2.eq_1,q47R4.eq_1,q47R5.eq_1,q47R3.eq_1,q47R6.eq_1,c_ref28_May.eq_1,c_ref28_May_L0.eq_1,e0,hln])
  | succ m ih =>
    intro i hi
    have hlt : i < q.length := by omega
    have hlt' : (i : Int) < q.length := by omega
    have hw := wrap_nat (n := i) (by omega)
    have hg := pcs_at hlt
    have hP := fun b f => mrpiece_P G q[i].1 q[i].2.1 (byt q[i].2.2.1) b f
    rw [byt_len] at hP
    have e : q.drop i = q[i] :: q.drop (i + 1) := List.drop_eq_getElem_cons hlt
    have ih := ih (i + 1) (by omega)
    rw [lp_ref28_May_0] at ih
    rw [e, List.all_cons, lp_ref28_May_0, y_loop]
    cases hx : pieceB q[i].1 q[i].2.1 q[i].2.2.1.length with
    | true =>
      have hx2 : pcB q[i] = true := hx
      rw [hx2, Bool.true_and, ← ih]
      (sym => simp [Qa,Qb,Qc,Qd,Qe,Qi,Qj,Qm,Qn,Qo,Qr,Qt,Q4,Xa,Xd,Xs,Xy,X5,Ya,Yh,Ys,Yu,Yy,Y9,Za,Zb,Zc,Ze,Zg,Zh,Zk,Zl,Zm,Zn,Zo,Zt,Zv,Zw,Z3,Jj,Jk,Jl,Jm,Jn,Jo,Jp,Jr,Js,Jt,Ju,Jv,Ux,U0,U4,U5,Vb,Ve,Vo,Vq,Vr,Vt,Vv,Vw,Vy,Vz,V0,V3,V6,V9,Wd,We,Ho,Hq,Hs,Hw,H1,Ni,Nk,Nl,No,Nw,Nx,Be,Ma,Mb,Md,Me,Mf,q47R0.eq_1,q47R1.eq_1,q47R2.eq_1,q47R4.eq_1,q47R5.eq_1,q47R3.eq_1,q47R6.eq_1,c_ref28_May.eq_1,c_ref28_May_L0.eq_1,hlt',hg,hln,hP,hx,hw])
    | false =>
      have hx2 : pcB q[i] = false := hx
      rw [hx2, Bool.false_and, if_neg (by simp)]
      (sym => simp [Qa,Qb,Qc,Qd,Qe,Qi,Qj,Qm,Qn,Qo,Qr,Qt,Q4,Xa,Xd,Xs,Xy,X5,Ya,Yh,Ys,Yu,Yy,Y9,Za,Zb,Zc,Ze,Zg,Zh,Zk,Zl,Zm,Zn,Zo,Zt,Zv,Zw,Z3,Jj,Jk,Jl,Jm,Jn,Jo,Jp,Jr,Js,Jt,Ju,Jv,Ux,U0,U4,U5,Vb,Ve,Vo,Vq,Vr,Vt,Vv,Vw,Vy,Vz,V0,V3,V6,V9,Wd,We,Ho,Hq,Hs,Hw,H1,Ni,Nk,Nl,No,Nw,Nx,Be,Ma,Mb,Md,Me,Mf,q47R0.eq_1,q47R1.eq_1,q47R2.eq_1,q47R4.eq_1,q47R5.eq_1,q47R3.eq_1,q47R6.eq_1,c_ref28_May.eq_1,c_ref28_May_L0.eq_1,hlt',hg,hln,hP,hx,hw])
theorem mrmay28_P (q : List Pc) (b f : Bool) (h : okL q) : aP G FT n_ref28_May [.data b 3 (pcs q) f] = some (.bool (mayQ 0 q)) := by
  have key := mrmay28_loop G q b f h.1 q.length 0 (by omega)
  simp only [List.drop_zero, Int.natCast_zero] at key
  have hZ := fun b f => mrsize_P G q b f h
  have e : mayQ 0 q = (q.all pcB && decide (sizeQ q ≤ 64)) := by
    rw [Bool.eq_iff_iff, may0_iff, Bool.and_eq_true, List.all_eq_true, decide_eq_true_eq]
  have p : (sizeQ q : Int) ≤ 64 ↔ sizeQ q ≤ 64 := by omega
  unfold aP
  rw [run_ref28_May, e]
  cases ha : q.all pcB with
  | true => rw [ha, if_pos rfl] at key; rw [Bool.true_and]; (sym => simp [Qb,Qd,Qe,Qi,Qj,Qm,Qn,Qo,Qr,Xa,Yb,Y1,Y5,Y7,Y9,Za,Zb,Zc,Ze,Zg,Zh,Zi,Zj,Zk,Zl,Zm,Zo,Zr,Zs,Zt,Zu,Zv,Zw,Jj,Jk,Jl,Jn,Jp,Jq,Jv,Jx,V9,Wd,We,Wk,Be,q47R0.eq_1,q47R1.eq_1,q47R2.eq_1,q47R4.eq_1,q47R5.eq_1,q47R3.eq_1,q47R6.eq_1,c_ref28_May.eq_1,key,hZ,p])
  | false => rw [ha, if_neg (by simp)] at key; rw [Bool.false_and]; (sym => simp [Qb,Qd,Qe,Qi,Qj,Qm,Qn,Qo,Qr,Xa,Yb,Y1,Y5,Y7,Y9,Za,Zb,Zc,Ze,Zg,Zh,Zi,Zj,Zk,Zl,Zm,Zo,Zr,Zs,Zt,Zu,Zv,Zw,Jj,Jk,Jl,Jn,Jp,Jq,Jv,Jx,V9,Wd,We,Wk,Be,q47R0.eq_1,q47R1.eq_1,q47R2.eq_1,q47R4.eq_1,q47R5.eq_1,q47R3.eq_1,q47R6.eq_1,c_ref28_May.eq_1,key])
end
end Go.Proofs.Ytfnonledcniojaa
