/- The document's queues and windows: Piece, Size, May, Same, Copy. Conditions: as each statement says. -/
import Derived.Test.YthcnhibjddomdaaGreatSei
import Derived.Test.YthcnhibjddomdaaGreatMg2
import Derived.Test.YthcnhibjddomdaaGreatSz3
set_option linter.unusedVariables false
set_option linter.unusedSimpArgs false
set_option linter.unusedSectionVars false
set_option maxRecDepth 20000
set_option maxHeartbeats 8000000
namespace Go.Proofs.YthcnhibjddomdaaGreat
open Go
variable (G : Nat → Option (List AV))
theorem rpiece_P (m a : Int) (L : List (List AV)) (b f : Bool) : aP G FT n_ref28_Piece [.agg [.int .i64 m, .int .i64 a, .data b 1 L f]] = some (.bool (pieceB m a L.length)) := by
  have p1 : (0 : Int) < m ↔ 1 ≤ m := by omega
  have p2 : m < 9 ↔ m ≤ 8 := by omega
  have p3 : (0 : Int) < a ↔ 1 ≤ a := by omega
  have p4 : (0 : Int) < L.length ↔ (1 : Int) ≤ L.length := by omega
  have p5 : (L.length : Int) < 17 ↔ (L.length : Int) ≤ 16 := by omega
  unfold aP pieceB
  rw [run_ref28_Piece]
  cases b
  all_goals
    by_cases h1 : 1 ≤ m
    · by_cases h2 : m ≤ 8
      · by_cases h3 : 1 ≤ a
        · by_cases h4 : a ≤ 1073741824
          · by_cases h5 : (1 : Int) ≤ L.length
            · by_cases h6 : (L.length : Int) ≤ 16
              · (sym => simp [Qb,Qd,Qe,Qf,Qg,Qi,Qj,Qr,Qt,Qu,Qw,Q4,Xa,Xp,Xy,Ya,Yb,Yc,Yh,Yj,Yr,Yt,Yv,Y1,Y5,Y7,Y9,Za,Zb,Zc,Ze,Zg,Zh,Zi,Zj,Zk,Zl,Zm,Zn,Zr,Zs,Zt,Zu,Zv,Zw,Zy,Z0,Z3,Ja,Jj,Jk,Jv,Jx,Ue,Uf,Ug,Ul,Wk,Hh,Hi,Hv,Nl,Nm,No,Nq,Nr,Nw,Nx,Be,q40R0.eq_1,q40R1.eq_1,c_ref28_Piece.eq_1,p1,p2,p3,p4,p5,h1,h2,h3,h4,h5,h6])
              · (sym => simp [Qb,Qd,Qe,Qf,Qg,Qi,Qj,Qr,Qt,Qu,Qw,Q4,Xa,Xp,Xy,Ya,Yb,Yc,Yh,Yj,Yr,Yt,Yv,Y1,Y5,Y7,Y9,Za,Zb,Zc,Ze,Zg,Zh,Zi,Zj,Zk,Zl,Zm,Zn,Zr,Zs,Zt,Zu,Zv,Zw,Zy,Z0,Z3,Ja,Jj,Jk,Jv,Jx,Ue,Uf,Ug,Ul,Wk,Hh,Hi,Hv,Nl,Nm,No,Nq,Nr,Nw,Nx,Be,q40R0.eq_1,q40R1.eq_1,c_ref28_Piece.eq_1,p1,p2,p3,p4,p5,h1,h2,h3,h4,h5,h6])
            · (sym => simp [Qb,Qd,Qe,Qf,Qg,Qi,Qj,Qr,Qt,Qu,Qw,Q4,Xa,Xp,Xy,Ya,Yb,Yc,Yh,Yj,Yr,Yt,Yv,Y1,Y5,Y7,Y9,Za,Zb,Zc,Ze,Zg,Zh,Zi,Zj,Zk,Zl,Zm,Zn,Zr,Zs,Zt,Zu,Zv,Zw,Zy,Z0,Z3,Ja,Jj,Jk,Jv,Jx,Ue,Uf,Ug,Ul,Wk,Hh,Hi,Hv,Nl,Nm,No,Nq,Nr,Nw,Nx,Be,q40R0.eq_1,q40R1.eq_1,c_ref28_Piece.eq_1,p1,p2,p3,p4,p5,h1,h2,h3,h4,h5])
          · (sym => simp [Qb,Qd,Qe,Qf,Qg,Qi,Qj,Qr,Qt,Qu,Qw,Q4,Xa,Xp,Xy,Ya,Yb,Yc,Yh,Yj,Yr,Yt,Yv,Y1,Y5,Y7,Y9,Za,Zb,Zc,Ze,Zg,Zh,Zi,Zj,Zk,Zl,Zm,Zn,Zr,Zs,Zt,Zu,Zv,Zw,Zy,Z0,Z3,Ja,Jj,Jk,Jv,Jx,Ue,Uf,Ug,Ul,Wk,Hh,Hi,Hv,Nl,Nm,No,Nq,Nr,Nw,Nx,Be,q40R0.eq_1,q40R1.eq_1,c_ref28_Piece.eq_1,p1,p2,p3,p4,p5,h1,h2,h3,h4])
        · (sym => simp [Qb,Qd,Qe,Qf,Qg,Qi,Qj,Qr,Qt,Qu,Qw,Q4,Xa,Xp,Xy,Ya,Yb,Yc,Yh,Yj,Yr,Yt,Yv,Y1,Y5,Y7,Y9,Za,Zb,Zc,Ze,Zg,Zh,Zi,Zj,Zk,Zl,Zm,Zn,Zr,Zs,Zt,Zu,Zv,Zw,Zy,Z0,Z3,Ja,Jj,Jk,Jv,Jx,Ue,Uf,Ug,Ul,Wk,Hh,Hi,Hv,Nl,Nm,No,Nq,Nr,Nw,Nx,Be,q40R0.eq_1,q40R1.eq_1,c_ref28_Piece.eq_1,p1,p2,p3,p4,p5,h1,h2,h3])
      · (sym => simp [Qb,Qd,Qe,Qf,Qg,Qi,Qj,Qr,Qt,Qu,Qw,Q4,Xa,Xp,Xy,Ya,Yb,Yc,Yh,Yj,Yr,Yt,Yv,Y1,Y5,Y7,Y9,Za,Zb,Zc,Ze,Zg,Zh,Zi,Zj,Zk,Zl,Zm,Zn,Zr,Zs,Zt,Zu,Zv,Zw,Zy,Z0,Z3,Ja,Jj,Jk,Jv,Jx,Ue,Uf,Ug,Ul,Wk,Hh,Hi,Hv,Nl,Nm,No,Nq,Nr,Nw,Nx,Be,q40R0.eq_1,q40R1.eq_1,c_ref28_Piece.eq_1,p1,p2,p3,p4,p5,h1,h2])
    · (sym => simp [Qb,Qd,Qe,Qf,Qg,Qi,Qj,Qr,Qt,Qu,Qw,Q4,Xa,Xp,Xy,Ya,Yb,Yc,Yh,Yj,Yr,Yt,Yv,Y1,Y5,Y7,Y9,Za,Zb,Zc,Ze,Zg,Zh,Zi,Zj,Zk,Zl,Zm,Zn,Zr,Zs,Zt,Zu,Zv,Zw,Zy,Z0,Z3,Ja,Jj,Jk,Jv,Jx,Ue,Uf,Ug,Ul,Wk,Hh,Hi,Hv,Nl,Nm,No,Nq,Nr,Nw,Nx,Be,q40R0.eq_1,q40R1.eq_1,c_ref28_Piece.eq_1,p1,p2,p3,p4,p5,h1])
theorem rsize_loop (q : List Pc) (b f : Bool) (hl : q.length ≤ 1000) (hz : sizeQ q ≤ 1000000) : ∀ (m i : Nat), i + m = q.length →
    aE G FT 0 lp_ref28_Size_0 ⟨[(0, .data b 3 (pcs q) f), (3, .int .i64 (sizeQ (q.take i) : Nat)), (4, .int .i64 i)], []⟩ =
      some (.exit 0, ⟨[(0, .data b 3 (pcs q) f), (3, .int .i64 (sizeQ q : Nat)), (4, .int .i64 q.length), (8, .bool false)], []⟩) := by
  have hln := pcs_len q
  intro m
  induction m with
  | zero =>
    intro i hi
    rw [lp_ref28_Size_0, y_loop]
    obtain rfl : i = q.length := by omega
    have e0 : decide ((q.length : Int) < q.length) = false := by simp
    rw [List.take_length]
    (sym => simp [Qa,Qc,Qd,Qe,Qi,Qj,Qr,Qt,Q4,Xa,Xp,Xs,Xy,X5,Ya,Yh,Ys,Yt,Yw,Yy,Y9,Za,Zb,Zc,Ze,Zg,Zh,Zk,Zl,Zt,Zv,Zw,Z3,Jj,Jk,Jm,Jn,Jo,Jr,Js,Ju,Jv,Ux,U0,U4,U5,Vb,Ve,Vo,Vq,Vr,Vt,Vv,Vw,Vy,Vz,V0,Hh,Hq,Hr,Hs,Hw,H1,Ni,Nk,Nl,No,Be,q42R0.eq_1,q42R1.eq_1,q42R2.eq_1,q42R3.eq_1,q42R5.eq_1,q42R4.eq_1,q42R6.eq_1,c_ref28_Size.eq_1,c_ref28_Size_L0.eq_1,e0,hln])
  | succ m ih =>
    intro i hi
    have hlt : i < q.length := by omega
    have hlt' : (i : Int) < q.length := by omega
    have hw := wrap_nat (n := i) (by omega)
    have hg := pcs_at hlt
    have hbl := byt_len q[i].2.2.1
    have e : sizeQ (q.take (i + 1)) = sizeQ (q.take i) + q[i].2.2.1.length := by
      have e1 : q.take (i + 1) = q.take i ++ [q[i]] := by rw [List.take_add_one, List.getElem?_eq_getElem hlt]; rfl
      rw [e1, sizeQ_app]; simp [sizeQ]
    have hle : sizeQ (q.take (i + 1)) ≤ sizeQ q := by have := sizeQ_split q (i + 1); omega
    have ih := ih (i + 1) (by omega)
    rw [e] at ih hle
    have hw2 : IntKind.i64.wrap ((sizeQ (q.take i) : Int) + q[i].2.2.1.length) = ((sizeQ (q.take i) + q[i].2.2.1.length : Nat) : Int) := by rw [wrap_in _ (by omega) (by omega)]; omega
    rw [lp_ref28_Size_0] at ih
    rw [← ih, lp_ref28_Size_0, y_loop]
    (sym => simp [Qa,Qc,Qd,Qe,Qi,Qj,Qr,Qt,Q4,Xa,Xp,Xs,Xy,X5,Ya,Yh,Ys,Yt,Yw,Yy,Y9,Za,Zb,Zc,Ze,Zg,Zh,Zk,Zl,Zt,Zv,Zw,Z3,Jj,Jk,Jm,Jn,Jo,Jr,Js,Ju,Jv,Ux,U0,U4,U5,Vb,Ve,Vo,Vq,Vr,Vt,Vv,Vw,Vy,Vz,V0,Hh,Hq,Hr,Hs,Hw,H1,Ni,Nk,Nl,No,Be,q42R0.eq_1,q42R1.eq_1,q42R2.eq_1,q42R3.eq_1,q42R5.eq_1,q42R4.eq_1,q42R6.eq_1,c_ref28_Size.eq_1,c_ref28_Size_L0.eq_1,hlt',hg,hln,hbl,hw,hw2])
theorem rsize_P (q : List Pc) (b f : Bool) (h : okL q) : aP G FT n_ref28_Size [.data b 3 (pcs q) f] = some (.int .i64 (sizeQ q : Nat)) := by
  have hz := sizeQ_le q h.2
  have h1 := h.1
  have key := rsize_loop G q b f h.1 (by omega) q.length 0 (by omega)
  have e : sizeQ (q.take 0) = 0 := rfl
  rw [e] at key
  simp only [Int.natCast_zero] at key
  unfold aP
  rw [run_ref28_Size]
  (sym => simp [Qb,Qd,Qe,Qi,Qj,Qr,Y1,Y5,Y7,Y9,Za,Zb,Zc,Ze,Zg,Zh,Zi,Zj,Zk,Zl,Zm,Zr,Zs,Zt,Zu,Zv,Zw,Jj,Jk,Jn,Jq,Jv,Jx,Wj,Be,q42R0.eq_1,q42R1.eq_1,q42R2.eq_1,q42R3.eq_1,q42R5.eq_1,q42R4.eq_1,q42R6.eq_1,c_ref28_Size.eq_1,key])
theorem rmay28_loop (q : List Pc) (b f : Bool) (hl : q.length ≤ 1000) : ∀ (m i : Nat), i + m = q.length →
    aE G FT 0 lp_ref28_May_0 ⟨[(0, .data b 3 (pcs q) f), (3, .int .i64 i)], []⟩ = if ((q.drop i).all pcB) = true then some (.exit 0, ⟨[(0, .data b 3 (pcs q) f), (3, .int .i64 q.length), (7, .bool false)], []⟩) else some (.ret, ⟨[(2, .bool false)], []⟩) := by
  have hln := pcs_len q
  intro m
  induction m with
  | zero =>
    intro i hi
    rw [lp_ref28_May_0, y_loop]
    have e : q.drop i = [] := List.drop_eq_nil_of_le (by omega)
    obtain rfl : i = q.length := by omega
    have e0 : decide ((q.length : Int) < q.length) = false := by simp
    rw [e, List.all_nil, if_pos rfl]
    (sym => simp [Qa,Qb,Qc,Qd,Qe,Qi,Qj,Qm,Qn,Qo,Qr,Qt,Q4,Xa,Xd,Xs,Xy,X5,Ya,Yh,Ys,Yu,Yy,Y9,Za,Zb,Zc,Ze,Zg,Zh,Zk,Zl,Zm,Zn,Zo,Zt,Zv,Zw,Z3,Jj,Jk,Jl,Jm,Jn,Jo,Jp,Jr,Js,Jt,Ju,Jv,Ux,U0,U4,U5,Vb,Ve,Vo,Vq,Vr,Vt,Vv,Vw,Vy,Vz,V0,V3,V6,V9,Wd,We,Ho,Hq,Hs,Hw,H1,Ni,Nk,Nl,No,Nw,Nx,Be,q39R0.eq_1,q39R1.eq_1,q39R2.eq_1,q39R4.eq_1,q39R5.eq_1,q39R3.eq_1,q39R6.eq_1,c_ref28_May.eq_1,c_ref28_May_L0.eq_1,e0,hln])
  | succ m ih =>
    intro i hi
    have hlt : i < q.length := by omega
    have hlt' : (i : Int) < q.length := by omega
    have hw := wrap_nat (n := i) (by omega)
    have hg := pcs_at hlt
    have hP := fun b f => rpiece_P G q[i].1 q[i].2.1 (byt q[i].2.2.1) b f
    rw [byt_len] at hP
    have e : q.drop i = q[i] :: q.drop (i + 1) := List.drop_eq_getElem_cons hlt
    have ih := ih (i + 1) (by omega)
    rw [lp_ref28_May_0] at ih
    rw [e, List.all_cons, lp_ref28_May_0, y_loop]
    cases hx : pieceB q[i].1 q[i].2.1 q[i].2.2.1.length with
    | true =>
      have hx2 : pcB q[i] = true := hx
      rw [hx2, Bool.true_and, ← ih]
      (sym => simp [Qa,Qb,Qc,Qd,Qe,Qi,Qj,Qm,Qn,Qo,Qr,Qt,Q4,Xa,Xd,Xs,Xy,X5,Ya,Yh,Ys,Yu,Yy,Y9,Za,Zb,Zc,Ze,Zg,Zh,Zk,Zl,Zm,Zn,Zo,Zt,Zv,Zw,Z3,Jj,Jk,Jl,Jm,Jn,Jo,Jp,Jr,Js,Jt,Ju,Jv,Ux,U0,U4,U5,Vb,Ve,Vo,Vq,Vr,Vt,Vv,Vw,Vy,Vz,V0,V3,V6,V9,Wd,We,Ho,Hq,Hs,Hw,H1,Ni,Nk,Nl,No,Nw,Nx,Be,q39R0.eq_1,q39R1.eq_1,q39R2.eq_1,q39R4.eq_1,q39R5.eq_1,q39R3.eq_1,q39R6.eq_1,c_ref28_May.eq_1,c_ref28_May_L0.eq_1,hlt',hg,hln,hP,hx,hw])
    | false =>
      have hx2 : pcB q[i] = false := hx
      rw [hx2, Bool.false_and, if_neg (by simp)]
      (sym => simp [Qa,Qb,Qc,Qd,Qe,Qi,Qj,Qm,Qn,Qo,Qr,Qt,Q4,Xa,Xd,Xs,Xy,X5,Ya,Yh,Ys,Yu,Yy,Y9,Za,Zb,Zc,Ze,Zg,Zh,Zk,Zl,Zm,Zn,Zo,Zt,Zv,Zw,Z3,Jj,Jk,Jl,Jm,Jn,Jo,Jp,Jr,Js,Jt,Ju,Jv,Ux,U0,U4,U5,Vb,Ve,Vo,Vq,Vr,Vt,Vv,Vw,Vy,Vz,V0,V3,V6,V9,Wd,We,Ho,Hq,Hs,Hw,H1,Ni,Nk,Nl,No,Nw,Nx,Be,q39R0.eq_1,q39R1.eq_1,q39R2.eq_1,q39R4.eq_1,q39R5.eq_1,q39R3.eq_1,q39R6.eq_1,c_ref28_May.eq_1,c_ref28_May_L0.eq_1,hlt',hg,hln,hP,hx,hw])
theorem rmay28_P (q : List Pc) (b f : Bool) (h : okL q) : aP G FT n_ref28_May [.data b 3 (pcs q) f] = some (.bool (mayQ 0 q)) := by
  have key := rmay28_loop G q b f h.1 q.length 0 (by omega)
  simp only [List.drop_zero, Int.natCast_zero] at key
  have hZ := fun b f => rsize_P G q b f h
  have e : mayQ 0 q = (q.all pcB && decide (sizeQ q ≤ 64)) := by
    rw [Bool.eq_iff_iff, may0_iff, Bool.and_eq_true, List.all_eq_true, decide_eq_true_eq]
  have p : (sizeQ q : Int) ≤ 64 ↔ sizeQ q ≤ 64 := by omega
  unfold aP
  rw [run_ref28_May, e]
  cases ha : q.all pcB with
  | true => rw [ha, if_pos rfl] at key; rw [Bool.true_and]; (sym => simp [Qb,Qd,Qe,Qi,Qj,Qm,Qn,Qo,Qr,Xa,Yb,Y1,Y5,Y7,Y9,Za,Zb,Zc,Ze,Zg,Zh,Zi,Zj,Zk,Zl,Zm,Zo,Zr,Zs,Zt,Zu,Zv,Zw,Jj,Jk,Jl,Jn,Jp,Jq,Jv,Jx,V9,Wd,We,Wk,Be,q39R0.eq_1,q39R1.eq_1,q39R2.eq_1,q39R4.eq_1,q39R5.eq_1,q39R3.eq_1,q39R6.eq_1,c_ref28_May.eq_1,key,hZ,p])
  | false => rw [ha, if_neg (by simp)] at key; rw [Bool.false_and]; (sym => simp [Qb,Qd,Qe,Qi,Qj,Qm,Qn,Qo,Qr,Xa,Yb,Y1,Y5,Y7,Y9,Za,Zb,Zc,Ze,Zg,Zh,Zi,Zj,Zk,Zl,Zm,Zo,Zr,Zs,Zt,Zu,Zv,Zw,Jj,Jk,Jl,Jn,Jp,Jq,Jv,Jx,V9,Wd,We,Wk,Be,q39R0.eq_1,q39R1.eq_1,q39R2.eq_1,q39R4.eq_1,q39R5.eq_1,q39R3.eq_1,q39R6.eq_1,c_ref28_May.eq_1,key])
theorem rsame28_loop (p q : List Pc) (b1 f1 b2 f2 : Bool) (hl : p.length = q.length) (hb : p.length ≤ 1000) : ∀ (m i : Nat), i + m = p.length →
    aE G FT 0 lp_ref28_Same_0 ⟨[(0, .data b1 3 (pcs p) f1), (1, .data b2 3 (pcs q) f2), (5, .int .i64 i)], []⟩ =
      if sameQ (p.drop i) (q.drop i) = true then some (.exit 0, ⟨[(0, .data b1 3 (pcs p) f1), (1, .data b2 3 (pcs q) f2), (5, .int .i64 p.length), (14, .bool false)], []⟩) else some (.ret, ⟨[(4, .bool false)], []⟩) := by
  have l1 := pcs_len p
  have l2 := pcs_len q
  intro m
  induction m with
  | zero =>
    intro i hi
    obtain rfl : i = p.length := by omega
    rw [lp_ref28_Same_0, y_loop, if_pos (by rw [List.drop_length, hl, List.drop_length]; rfl)]
    have h4 : ¬ (p.length : Int) < p.length := by omega
    (sym => simp [Qa,Qb,Qc,Qd,Qe,Qf,Qg,Qi,Qj,Qr,Qt,Qu,Q4,Xa,Xb,Xi,Xp,Xs,Xy,X5,X9,Ya,Yh,Ys,Yt,Yw,Yy,Y3,Y9,Za,Zb,Zc,Ze,Zg,Zh,Zk,Zl,Zt,Zv,Zw,Z3,Jb,Jg,Jj,Jk,Jl,Jm,Jn,Jo,Jp,Jr,Js,Jt,Ju,Jv,Kj,Kn,Ux,U0,U4,U5,Vb,Ve,Vo,Vq,Vr,Vt,Vv,Vw,Vy,Vz,V0,Hf,Hh,Hq,Hr,Hs,Hw,H1,Ni,Nk,Nl,Nm,No,Nw,Nx,Be,q41R0.eq_1,q41R1.eq_1,q41R2.eq_1,q41R3.eq_1,q41R4.eq_1,q41R6.eq_1,q41R7.eq_1,q41R5.eq_1,q41R8.eq_1,c_ref28_Same.eq_1,c_ref28_Same_L0.eq_1,h4,l1])
  | succ m ih =>
    intro i hi
    have ih := ih (i + 1) (by omega)
    have hlt : i < p.length := by omega
    have hlt2 : i < q.length := by omega
    have h4 : (i : Int) < p.length := by omega
    have g1 := pcs_at hlt
    have g2 := pcs_at hlt2
    have d1 : p.drop i = p[i] :: p.drop (i + 1) := List.drop_eq_getElem_cons hlt
    have d2 : q.drop i = q[i] :: q.drop (i + 1) := List.drop_eq_getElem_cons hlt2
    have hw := wrap_nat (n := i) (by omega)
    rw [lp_ref28_Same_0] at ih
    rw [lp_ref28_Same_0, y_loop, d1, d2, sameQ]
    have b3 := asb_bso p[i].2.2.1
    have b4 := asb_bso q[i].2.2.1
    have hB : ((⟨⟨bso p[i].2.2.1⟩⟩ : ByteArray) == ⟨⟨bso q[i].2.2.1⟩⟩) = bEq p[i].2.2.1 q[i].2.2.1 := rfl
    have hS : sameP p[i] q[i] = (decide (p[i].1 = q[i].1) && decide (p[i].2.1 = q[i].2.1) && bEq p[i].2.2.1 q[i].2.2.1) := rfl
    rw [hS]
    generalize p[i] = x at *
    generalize q[i] = y at *
    generalize bEq x.2.2.1 y.2.2.1 = B0 at *
    by_cases h1 : x.1 = y.1
    · by_cases h2 : x.2.1 = y.2.1
      · cases B0 with
        | true =>
          rw [decide_eq_true h1, decide_eq_true h2, Bool.true_and, Bool.true_and, Bool.true_and, ← ih]
          (sym => simp [Qa,Qb,Qc,Qd,Qe,Qf,Qg,Qi,Qj,Qr,Qt,Qu,Q4,Xa,Xb,Xi,Xp,Xs,Xy,X5,X9,Ya,Yh,Ys,Yt,Yw,Yy,Y3,Y9,Za,Zb,Zc,Ze,Zg,Zh,Zk,Zl,Zt,Zv,Zw,Z3,Jb,Jg,Jj,Jk,Jl,Jm,Jn,Jo,Jp,Jr,Js,Jt,Ju,Jv,Kj,Kn,Ux,U0,U4,U5,Vb,Ve,Vo,Vq,Vr,Vt,Vv,Vw,Vy,Vz,V0,Hf,Hh,Hq,Hr,Hs,Hw,H1,Ni,Nk,Nl,Nm,No,Nw,Nx,Be,q41R0.eq_1,q41R1.eq_1,q41R2.eq_1,q41R3.eq_1,q41R4.eq_1,q41R6.eq_1,q41R7.eq_1,q41R5.eq_1,q41R8.eq_1,c_ref28_Same.eq_1,c_ref28_Same_L0.eq_1,h4,l1,g1,g2,hw,h1,h2,b3,b4,hB])
        | false =>
          rw [Bool.and_false, Bool.false_and, if_neg (by simp)]
          (sym => simp [Qa,Qb,Qc,Qd,Qe,Qf,Qg,Qi,Qj,Qr,Qt,Qu,Q4,Xa,Xb,Xi,Xp,Xs,Xy,X5,X9,Ya,Yh,Ys,Yt,Yw,Yy,Y3,Y9,Za,Zb,Zc,Ze,Zg,Zh,Zk,Zl,Zt,Zv,Zw,Z3,Jb,Jg,Jj,Jk,Jl,Jm,Jn,Jo,Jp,Jr,Js,Jt,Ju,Jv,Kj,Kn,Ux,U0,U4,U5,Vb,Ve,Vo,Vq,Vr,Vt,Vv,Vw,Vy,Vz,V0,Hf,Hh,Hq,Hr,Hs,Hw,H1,Ni,Nk,Nl,Nm,No,Nw,Nx,Be,q41R0.eq_1,q41R1.eq_1,q41R2.eq_1,q41R3.eq_1,q41R4.eq_1,q41R6.eq_1,q41R7.eq_1,q41R5.eq_1,q41R8.eq_1,c_ref28_Same.eq_1,c_ref28_Same_L0.eq_1,h4,l1,g1,g2,hw,h1,h2,b3,b4,hB])
      · rw [decide_eq_false h2, Bool.and_false, Bool.false_and, Bool.false_and, if_neg (by simp)]
        (sym => simp [Qa,Qb,Qc,Qd,Qe,Qf,Qg,Qi,Qj,Qr,Qt,Qu,Q4,Xa,Xb,Xi,Xp,Xs,Xy,X5,X9,Ya,Yh,Ys,Yt,Yw,Yy,Y3,Y9,Za,Zb,Zc,Ze,Zg,Zh,Zk,Zl,Zt,Zv,Zw,Z3,Jb,Jg,Jj,Jk,Jl,Jm,Jn,Jo,Jp,Jr,Js,Jt,Ju,Jv,Kj,Kn,Ux,U0,U4,U5,Vb,Ve,Vo,Vq,Vr,Vt,Vv,Vw,Vy,Vz,V0,Hf,Hh,Hq,Hr,Hs,Hw,H1,Ni,Nk,Nl,Nm,No,Nw,Nx,Be,q41R0.eq_1,q41R1.eq_1,q41R2.eq_1,q41R3.eq_1,q41R4.eq_1,q41R6.eq_1,q41R7.eq_1,q41R5.eq_1,q41R8.eq_1,c_ref28_Same.eq_1,c_ref28_Same_L0.eq_1,h4,l1,g1,g2,hw,h1,h2])
    · rw [decide_eq_false h1, Bool.false_and, Bool.false_and, Bool.false_and, if_neg (by simp)]
      (sym => simp [Qa,Qb,Qc,Qd,Qe,Qf,Qg,Qi,Qj,Qr,Qt,Qu,Q4,Xa,Xb,Xi,Xp,Xs,Xy,X5,X9,Ya,Yh,Ys,Yt,Yw,Yy,Y3,Y9,Za,Zb,Zc,Ze,Zg,Zh,Zk,Zl,Zt,Zv,Zw,Z3,Jb,Jg,Jj,Jk,Jl,Jm,Jn,Jo,Jp,Jr,Js,Jt,Ju,Jv,Kj,Kn,Ux,U0,U4,U5,Vb,Ve,Vo,Vq,Vr,Vt,Vv,Vw,Vy,Vz,V0,Hf,Hh,Hq,Hr,Hs,Hw,H1,Ni,Nk,Nl,Nm,No,Nw,Nx,Be,q41R0.eq_1,q41R1.eq_1,q41R2.eq_1,q41R3.eq_1,q41R4.eq_1,q41R6.eq_1,q41R7.eq_1,q41R5.eq_1,q41R8.eq_1,c_ref28_Same.eq_1,c_ref28_Same_L0.eq_1,h4,l1,g1,g2,hw,h1])
theorem rsame28_P (p q : List Pc) (b1 f1 b2 f2 : Bool) (hb : p.length ≤ 1000) : aP G FT n_ref28_Same [.data b1 3 (pcs p) f1, .data b2 3 (pcs q) f2] = some (.bool (sameQ p q)) := by
  have l1 := pcs_len p
  have l2 := pcs_len q
  unfold aP
  rw [run_ref28_Same]
  by_cases hl : p.length = q.length
  · have key := rsame28_loop G p q b1 f1 b2 f2 hl hb p.length 0 (by omega)
    simp only [List.drop_zero, Int.natCast_zero] at key
    have hl2 : ((p.length : Int) = q.length) ↔ True := by simp [hl]
    cases hq : sameQ p q with
    | true => rw [if_pos hq] at key; (sym => simp [Qb,Qc,Qd,Qe,Qi,Qj,Qr,Qt,Xa,Xy,X9,Yh,Y1,Y5,Y7,Y9,Za,Zb,Zc,Ze,Zg,Zh,Zi,Zj,Zk,Zl,Zm,Zr,Zs,Zt,Zu,Zv,Zw,Z3,Jj,Jk,Jl,Jn,Jp,Jq,Jr,Jv,Jx,Wk,Nl,Nm,Nw,Nx,Be,q41R0.eq_1,q41R1.eq_1,q41R2.eq_1,q41R3.eq_1,q41R4.eq_1,q41R6.eq_1,q41R7.eq_1,q41R5.eq_1,q41R8.eq_1,c_ref28_Same.eq_1,key,l1,l2,hl2])
    | false => rw [if_neg (by simp [hq])] at key; (sym => simp [Qb,Qc,Qd,Qe,Qi,Qj,Qr,Qt,Xa,Xy,X9,Yh,Y1,Y5,Y7,Y9,Za,Zb,Zc,Ze,Zg,Zh,Zi,Zj,Zk,Zl,Zm,Zr,Zs,Zt,Zu,Zv,Zw,Z3,Jj,Jk,Jl,Jn,Jp,Jq,Jr,Jv,Jx,Wk,Nl,Nm,Nw,Nx,Be,q41R0.eq_1,q41R1.eq_1,q41R2.eq_1,q41R3.eq_1,q41R4.eq_1,q41R6.eq_1,q41R7.eq_1,q41R5.eq_1,q41R8.eq_1,c_ref28_Same.eq_1,key,l1,l2,hl2])
  · have hd : sameQ p q = false := by
      cases h : sameQ p q with
      | false => rfl
      | true => exact absurd (sameQ_len h) hl
    rw [hd]
    have hl2 : ¬ ((p.length : Int) = q.length) := by omega
    (sym => simp [Qb,Qc,Qd,Qe,Qi,Qj,Qr,Qt,Xa,Xy,X9,Yh,Y1,Y5,Y7,Y9,Za,Zb,Zc,Ze,Zg,Zh,Zi,Zj,Zk,Zl,Zm,Zr,Zs,Zt,Zu,Zv,Zw,Z3,Jj,Jk,Jl,Jn,Jp,Jq,Jr,Jv,Jx,Wk,Nl,Nm,Nw,Nx,Be,q41R0.eq_1,q41R1.eq_1,q41R2.eq_1,q41R3.eq_1,q41R4.eq_1,q41R6.eq_1,q41R7.eq_1,q41R5.eq_1,q41R8.eq_1,c_ref28_Same.eq_1,l1,l2,hl2])
theorem rcopy_loop (q : List Pc) (b f : Bool) (h : okL q) : ∀ (m i : Nat), i + m = q.length → ∀ st, agc 0 [0, 3, 4] st = some ⟨[(0, .data b 3 (pcs q) f), (3, .own 0 0 0 i i), (4, .int .i64 i)], [⟨3, 0, true, pcs (cpQ (q.take i))⟩]⟩ →
    aE G FT 0 lp_ref28_Copy_0 st = some (.exit 0, ⟨[(0, .data b 3 (pcs q) f), (3, .own 0 0 0 q.length q.length), (4, .int .i64 q.length), (9, .bool false)], [⟨3, 0, true, pcs (cpQ q)⟩]⟩) := by
  have hln := pcs_len q
  intro m
  induction m with
  | zero =>
    intro i hi st hst
    rw [lp_ref28_Copy_0, y_loop, hst]
    obtain rfl : i = q.length := by omega
    rw [List.take_length]
    have e0 : decide ((q.length : Int) < q.length) = false := by simp
    (sym => simp [Qa,Qc,Qd,Qe,Qi,Qj,Qr,Qt,Qv,Qz,Q0,Q2,Q3,Q4,Q5,Xa,Xp,Xs,Xy,X0,X1,X5,Ya,Yh,Yj,Yr,Ys,Yt,Yu,Yv,Yy,Y2,Y3,Y9,Za,Zb,Zc,Zd,Ze,Zg,Zh,Zk,Zl,Zm,Zn,Zt,Zv,Zw,Zx,Zy,Zz,Z0,Z1,Z3,Jj,Jk,Jm,Jn,Jo,Jr,Js,Ju,Jv,J1,J2,J6,Kv,Kx,Ky,Ua,Ub,Uc,Ud,Ue,Uf,Ug,Ul,Us,Ux,U0,U4,U5,U6,Vb,Ve,Vk,Vm,Vo,Vp,Vq,Vr,Vs,Vt,Vu,Vv,Vw,Vx,Vy,Vz,V0,Hh,Hi,Hk,Hl,Ho,Hp,Hq,Hr,Hs,Ht,Hu,Hv,Hw,H1,H2,H3,H5,H6,H8,Nc,Ng,Nh,Ni,Nk,Nl,Nn,No,Ns,Nx,Nz,N0,N2,Be,Bg,q36R0.eq_1,q36R1.eq_1,q36R2.eq_1,q36R3.eq_1,q36R5.eq_1,q36R6.eq_1,q36R7.eq_1,q36R4.eq_1,q36R8.eq_1,c_ref28_Copy.eq_1,c_ref28_Copy_L0.eq_1,e0,hln])
  | succ m ih =>
    intro i hi st hst
    have hlt : i < q.length := by omega
    have hlt' : (i : Int) < q.length := by omega
    have hw := wrap_nat (n := i) (by have := h.1; omega)
    have hg := pcs_at hlt
    have hbl := byt_len q[i].2.2.1
    have ih := ih (i + 1) (by omega)
    have e : pcs (cpQ (q.take (i + 1))) = pcs (cpQ (q.take i)) ++ [[.int .i64 q[i].1, .int .i64 q[i].2.1, .data false 1 (byt q[i].2.2.1) false]] := by
      have e1 : q.take (i + 1) = q.take i ++ [q[i]] := by rw [List.take_add_one, List.getElem?_eq_getElem hlt]; rfl
      rw [e1, cpQ, List.map_append, pcs_append]; rfl
    rw [e] at ih
    rw [lp_ref28_Copy_0] at ih
    rw [lp_ref28_Copy_0, y_loop, hst]
    have hlo : (pcs (cpQ (q.take i))).length = i := by rw [pcs_len, cpQ_len, List.length_take]; omega
    have b1 : (i + 1) * 40 ≤ 140737488355328 := by have := h.1; omega
    have b2 : q[i].2.2.1.length ≤ 140737488355328 := by have := h.2 q[i] (List.getElem_mem _); omega
    have b3 : q[i].2.2.1.length * 1 ≤ 140737488355328 := by omega
    have n1 : i + 1 ≤ i ↔ False := by simp
    have tk : List.take i (pcs (cpQ (q.take i))) = pcs (cpQ (q.take i)) := List.take_of_length_le (by omega)
    generalize pcs (cpQ (q.take i)) = P at ih hlo tk ⊢
    generalize pcs (cpQ q) = PQ at ih ⊢
    generalize q[i] = z at *
    (sym => simp [Qa,Qc,Qd,Qe,Qi,Qj,Qr,Qt,Qv,Qz,Q0,Q2,Q3,Q4,Q5,Xa,Xp,Xs,Xy,X0,X1,X5,Ya,Yh,Yj,Yr,Ys,Yt,Yu,Yv,Yy,Y2,Y3,Y9,Za,Zb,Zc,Zd,Ze,Zg,Zh,Zk,Zl,Zm,Zn,Zt,Zv,Zw,Zx,Zy,Zz,Z0,Z1,Z3,Jj,Jk,Jm,Jn,Jo,Jr,Js,Ju,Jv,J1,J2,J6,Kv,Kx,Ky,Ua,Ub,Uc,Ud,Ue,Uf,Ug,Ul,Us,Ux,U0,U4,U5,U6,Vb,Ve,Vk,Vm,Vo,Vp,Vq,Vr,Vs,Vt,Vu,Vv,Vw,Vx,Vy,Vz,V0,Hh,Hi,Hk,Hl,Ho,Hp,Hq,Hr,Hs,Ht,Hu,Hv,Hw,H1,H2,H3,H5,H6,H8,Nc,Ng,Nh,Ni,Nk,Nl,Nn,No,Ns,Nx,Nz,N0,N2,Be,Bg,q36R0.eq_1,q36R1.eq_1,q36R2.eq_1,q36R3.eq_1,q36R5.eq_1,q36R6.eq_1,q36R7.eq_1,q36R4.eq_1,q36R8.eq_1,c_ref28_Copy.eq_1,c_ref28_Copy_L0.eq_1,hlt',hg,hbl,hlo,b1,b2,b3,n1,tk,hw,hln]; tactic => (
      refine ih _ ?_
      (sym => simp [Qa,Qc,Qd,Qe,Qi,Qj,Qr,Qt,Qv,Qz,Q0,Q2,Q3,Q4,Q5,Xa,Xp,Xs,Xy,X0,X1,X5,Ya,Yh,Yj,Yr,Ys,Yt,Yu,Yv,Yy,Y2,Y3,Y9,Za,Zb,Zc,Zd,Ze,Zg,Zh,Zk,Zl,Zm,Zn,Zt,Zv,Zw,Zx,Zy,Zz,Z0,Z1,Z3,Jj,Jk,Jm,Jn,Jo,Jr,Js,Ju,Jv,J1,J2,J6,Kv,Kx,Ky,Ua,Ub,Uc,Ud,Ue,Uf,Ug,Ul,Us,Ux,U0,U4,U5,U6,Vb,Ve,Vk,Vm,Vo,Vp,Vq,Vr,Vs,Vt,Vu,Vv,Vw,Vx,Vy,Vz,V0,Hh,Hi,Hk,Hl,Ho,Hp,Hq,Hr,Hs,Ht,Hu,Hv,Hw,H1,H2,H3,H5,H6,H8,Nc,Ng,Nh,Ni,Nk,Nl,Nn,No,Ns,Nx,Nz,N0,N2,Be,Bg,hlo,tk])))
theorem rcopy_P (q : List Pc) (b f : Bool) (h : okL q) : aP G FT n_ref28_Copy [.data b 3 (pcs q) f] = some (.data false 3 (pcs (cpQ q)) false) := by
  have key := rcopy_loop G q b f h q.length 0 (by omega) ⟨[(0, .data b 3 (pcs q) f), (3, .own 0 0 0 0 0), (4, .int .i64 0)], [⟨3, 0, true, []⟩]⟩ (by
    simp only [Int.natCast_zero, List.take_zero, show pcs (cpQ []) = [] from rfl]
    (sym => simp [Qb,Qd,Qe,Qi,Qj,Qr,Qs,Y1,Y5,Y7,Y9,Za,Zb,Zc,Ze,Zg,Zh,Zi,Zj,Zk,Zl,Zm,Zn,Zr,Zs,Zt,Zu,Zv,Zw,Zx,Zy,Zz,Z0,Z3,Jj,Jk,Jn,Jq,Jv,Jx,Us,Ux,U0,U4,U5,U6,Vb,Ve,Vk,Vm,Vo,Vp,Vq,Vr,Vs,Vt,Vu,Vv,Vw,Vx,Vy,Vz,V0,Wf,Hh,Hp,Hs,Hv,Hw,H1,H5,H6,H8,Ng,Nl,No,Nx,Nz,Be]))
  have hlo : (pcs (cpQ q)).length = q.length := by rw [pcs_len, cpQ_len]
  have tk : List.take q.length (pcs (cpQ q)) = pcs (cpQ q) := List.take_of_length_le (by omega)
  unfold aP
  rw [run_ref28_Copy]
  (sym => simp [Qb,Qd,Qe,Qi,Qj,Qr,Qs,Y1,Y5,Y7,Y9,Za,Zb,Zc,Ze,Zg,Zh,Zi,Zj,Zk,Zl,Zm,Zn,Zr,Zs,Zt,Zu,Zv,Zw,Zx,Zy,Zz,Z0,Z3,Jj,Jk,Jn,Jq,Jv,Jx,Us,Ux,U0,U4,U5,U6,Vb,Ve,Vk,Vm,Vo,Vp,Vq,Vr,Vs,Vt,Vu,Vv,Vw,Vx,Vy,Vz,V0,Wf,Hh,Hp,Hs,Hv,Hw,H1,H5,H6,H8,Ng,Nl,No,Nx,Nz,Be,q36R0.eq_1,q36R1.eq_1,q36R2.eq_1,q36R3.eq_1,q36R5.eq_1,q36R6.eq_1,q36R7.eq_1,q36R4.eq_1,q36R8.eq_1,c_ref28_Copy.eq_1,key,hlo,tk])
/-! ### Windows -/
theorem rmay29_loop (w : Nat → Int × Int) : ∀ (m i : Nat), i + m = 9 →
    aE G FT 0 lp_ref29_May_0 ⟨[(1, .ptr 0 0 0 0), (3, .int .i64 i)], [⟨18, 0, true, [cellsW w]⟩]⟩ = if mayFrom w m i = true then some (.exit 0, ⟨[(1, .ptr 0 0 0 0), (3, .int .i64 9), (7, .bool false)], [⟨18, 0, true, [cellsW w]⟩]⟩) else some (.ret, ⟨[(2, .bool false)], [⟨18, 0, true, [cellsW w]⟩]⟩) := by
  have cl := cW_len w
  intro m
  induction m with
  | zero =>
    intro i hi
    rw [lp_ref29_May_0, y_loop]
    obtain rfl : i = 9 := by omega
    rw [mayFrom, if_pos rfl]
    have e : ((9 : Nat) : Int) = 9 := rfl
    (sym => simp [Qa,Qb,Qc,Qd,Qe,Qf,Qg,Qi,Qj,Qr,Qt,Qu,Q4,Xa,Xd,Xt,X5,X8,Ya,Yb,Yc,Yr,Yt,Yz,Y9,Za,Zb,Zc,Ze,Zg,Zh,Zk,Zl,Zm,Zn,Zt,Zv,Zw,Zx,Zy,Zz,Z0,Z3,Ja,Jj,Jk,Jl,Jm,Jn,Jo,Jp,Jr,Js,Jt,Ju,Jv,Ut,Ux,U4,U5,U7,Vb,Vk,Vm,Vo,Vp,Vq,Vr,Vs,Vt,Vu,Vv,Vw,Vx,Vy,Vz,V0,Hh,Hp,Hv,Hw,H1,H5,H6,H8,H9,Ni,Nk,Nl,Nm,No,Nw,Nx,Nz,Be,Bh,Bi,q44R0.eq_1,q44R1.eq_1,q44R2.eq_1,q44R4.eq_1,q44R5.eq_1,q44R6.eq_1,q44R7.eq_1,q44R3.eq_1,q44R8.eq_1,c_ref29_May.eq_1,c_ref29_May_L0.eq_1,e])
  | succ m ih =>
    intro i hi
    have ih := ih (i + 1) (by omega)
    rw [lp_ref29_May_0] at ih
    rw [lp_ref29_May_0, y_loop]
    have hlt : i < 9 := by omega
    have hlt' : (i : Int) < 9 := by omega
    have hw := wrap_nat (n := i) (by omega)
    have c0 := cW_0 w hlt
    have c1 := cW_1 w hlt
    have q1 : i * 2 < 18 := by omega
    have q2 : i * 2 + 1 < 18 := by omega
    have m1 : (0 : Int) < (w i).1 ↔ 1 ≤ (w i).1 := by omega
    have m2 : (0 : Int) < (w i).2 ↔ 1 ≤ (w i).2 := by omega
    have i0 : (0 : Int) < i ↔ ¬ i = 0 := by omega
    rw [mayFrom]
    have ho : okW w i = ((decide ((w i).1 = 0) && decide ((w i).2 = 0)) || (!decide (i = 0) && (decide (1 ≤ (w i).1) && decide ((w i).1 ≤ 1000) && (decide (1 ≤ (w i).2) && decide ((w i).2 ≤ 1000))))) := by
      unfold okW winB sideB
      rw [Bool.eq_iff_iff]
      simp only [Bool.and_eq_true, Bool.or_eq_true, decide_eq_true_eq, Bool.not_eq_true', decide_eq_false_iff_not]
      omega
    rw [ho]
    generalize cellsW w = C at *
    generalize w i = x at *
    by_cases a0 : x.1 = 0
    · by_cases b0 : x.2 = 0
      · rw [decide_eq_true a0, decide_eq_true b0, Bool.true_and, Bool.true_or, Bool.true_and, ← ih]
        by_cases h0 : i = 0
        · subst h0
          have z1 : ((0 : Nat) : Int) = 0 := rfl
          have z2 : ((0 + 1 : Nat) : Int) = 1 := rfl
          have z3 : IntKind.i64.wrap 1 = 1 := by decide
          simp only [Nat.zero_mul, Nat.zero_add] at c0 c1
          (sym => simp [Qa,Qb,Qc,Qd,Qe,Qf,Qg,Qi,Qj,Qr,Qt,Qu,Q4,Xa,Xd,Xt,X5,X8,Ya,Yb,Yc,Yr,Yt,Yz,Y9,Za,Zb,Zc,Ze,Zg,Zh,Zk,Zl,Zm,Zn,Zt,Zv,Zw,Zx,Zy,Zz,Z0,Z3,Ja,Jj,Jk,Jl,Jm,Jn,Jo,Jp,Jr,Js,Jt,Ju,Jv,Ut,Ux,U4,U5,U7,Vb,Vk,Vm,Vo,Vp,Vq,Vr,Vs,Vt,Vu,Vv,Vw,Vx,Vy,Vz,V0,Hh,Hp,Hv,Hw,H1,H5,H6,H8,H9,Ni,Nk,Nl,Nm,No,Nw,Nx,Nz,Be,Bh,Bi,q44R0.eq_1,q44R1.eq_1,q44R2.eq_1,q44R4.eq_1,q44R5.eq_1,q44R6.eq_1,q44R7.eq_1,q44R3.eq_1,q44R8.eq_1,c_ref29_May.eq_1,c_ref29_May_L0.eq_1,hlt',c0,c1,cl,a0,b0,z1,z2,z3])
        · (sym => simp [Qa,Qb,Qc,Qd,Qe,Qf,Qg,Qi,Qj,Qr,Qt,Qu,Q4,Xa,Xd,Xt,X5,X8,Ya,Yb,Yc,Yr,Yt,Yz,Y9,Za,Zb,Zc,Ze,Zg,Zh,Zk,Zl,Zm,Zn,Zt,Zv,Zw,Zx,Zy,Zz,Z0,Z3,Ja,Jj,Jk,Jl,Jm,Jn,Jo,Jp,Jr,Js,Jt,Ju,Jv,Ut,Ux,U4,U5,U7,Vb,Vk,Vm,Vo,Vp,Vq,Vr,Vs,Vt,Vu,Vv,Vw,Vx,Vy,Vz,V0,Hh,Hp,Hv,Hw,H1,H5,H6,H8,H9,Ni,Nk,Nl,Nm,No,Nw,Nx,Nz,Be,Bh,Bi,q44R0.eq_1,q44R1.eq_1,q44R2.eq_1,q44R4.eq_1,q44R5.eq_1,q44R6.eq_1,q44R7.eq_1,q44R3.eq_1,q44R8.eq_1,c_ref29_May.eq_1,c_ref29_May_L0.eq_1,hlt',c0,c1,cl,a0,b0,hw,i0,h0,q1,q2])
      · rw [decide_eq_false b0, Bool.and_false, Bool.false_or]
        have a1 : ¬ 1 ≤ x.1 := by omega
        rw [decide_eq_false a1, Bool.false_and, Bool.false_and, Bool.and_false, Bool.false_and, if_neg (by simp)]
        by_cases h0 : i = 0
        · subst h0
          have z1 : ((0 : Nat) : Int) = 0 := rfl
          have z2 : ((0 + 1 : Nat) : Int) = 1 := rfl
          have z3 : IntKind.i64.wrap 1 = 1 := by decide
          simp only [Nat.zero_mul, Nat.zero_add] at c0 c1
          (sym => simp [Qa,Qb,Qc,Qd,Qe,Qf,Qg,Qi,Qj,Qr,Qt,Qu,Q4,Xa,Xd,Xt,X5,X8,Ya,Yb,Yc,Yr,Yt,Yz,Y9,Za,Zb,Zc,Ze,Zg,Zh,Zk,Zl,Zm,Zn,Zt,Zv,Zw,Zx,Zy,Zz,Z0,Z3,Ja,Jj,Jk,Jl,Jm,Jn,Jo,Jp,Jr,Js,Jt,Ju,Jv,Ut,Ux,U4,U5,U7,Vb,Vk,Vm,Vo,Vp,Vq,Vr,Vs,Vt,Vu,Vv,Vw,Vx,Vy,Vz,V0,Hh,Hp,Hv,Hw,H1,H5,H6,H8,H9,Ni,Nk,Nl,Nm,No,Nw,Nx,Nz,Be,Bh,Bi,q44R0.eq_1,q44R1.eq_1,q44R2.eq_1,q44R4.eq_1,q44R5.eq_1,q44R6.eq_1,q44R7.eq_1,q44R3.eq_1,q44R8.eq_1,c_ref29_May.eq_1,c_ref29_May_L0.eq_1,hlt',c0,c1,cl,a0,b0,z1,z2,z3])
        · (sym => simp [Qa,Qb,Qc,Qd,Qe,Qf,Qg,Qi,Qj,Qr,Qt,Qu,Q4,Xa,Xd,Xt,X5,X8,Ya,Yb,Yc,Yr,Yt,Yz,Y9,Za,Zb,Zc,Ze,Zg,Zh,Zk,Zl,Zm,Zn,Zt,Zv,Zw,Zx,Zy,Zz,Z0,Z3,Ja,Jj,Jk,Jl,Jm,Jn,Jo,Jp,Jr,Js,Jt,Ju,Jv,Ut,Ux,U4,U5,U7,Vb,Vk,Vm,Vo,Vp,Vq,Vr,Vs,Vt,Vu,Vv,Vw,Vx,Vy,Vz,V0,Hh,Hp,Hv,Hw,H1,H5,H6,H8,H9,Ni,Nk,Nl,Nm,No,Nw,Nx,Nz,Be,Bh,Bi,q44R0.eq_1,q44R1.eq_1,q44R2.eq_1,q44R4.eq_1,q44R5.eq_1,q44R6.eq_1,q44R7.eq_1,q44R3.eq_1,q44R8.eq_1,c_ref29_May.eq_1,c_ref29_May_L0.eq_1,hlt',c0,c1,cl,a0,b0,hw,i0,h0,q1,q2])
    · rw [decide_eq_false a0, Bool.false_and, Bool.false_or]
      by_cases h0 : i = 0
      · subst h0
        rw [decide_eq_true (rfl : (0 : Nat) = 0), Bool.not_true, Bool.false_and, Bool.false_and, if_neg (by simp)]
        have z1 : ((0 : Nat) : Int) = 0 := rfl
        have z2 : ((0 + 1 : Nat) : Int) = 1 := rfl
        have z3 : IntKind.i64.wrap 1 = 1 := by decide
        simp only [Nat.zero_mul, Nat.zero_add] at c0 c1
        (sym => simp [Qa,Qb,Qc,Qd,Qe,Qf,Qg,Qi,Qj,Qr,Qt,Qu,Q4,Xa,Xd,Xt,X5,X8,Ya,Yb,Yc,Yr,Yt,Yz,Y9,Za,Zb,Zc,Ze,Zg,Zh,Zk,Zl,Zm,Zn,Zt,Zv,Zw,Zx,Zy,Zz,Z0,Z3,Ja,Jj,Jk,Jl,Jm,Jn,Jo,Jp,Jr,Js,Jt,Ju,Jv,Ut,Ux,U4,U5,U7,Vb,Vk,Vm,Vo,Vp,Vq,Vr,Vs,Vt,Vu,Vv,Vw,Vx,Vy,Vz,V0,Hh,Hp,Hv,Hw,H1,H5,H6,H8,H9,Ni,Nk,Nl,Nm,No,Nw,Nx,Nz,Be,Bh,Bi,q44R0.eq_1,q44R1.eq_1,q44R2.eq_1,q44R4.eq_1,q44R5.eq_1,q44R6.eq_1,q44R7.eq_1,q44R3.eq_1,q44R8.eq_1,c_ref29_May.eq_1,c_ref29_May_L0.eq_1,hlt',c0,c1,cl,a0,z1,z2,z3])
      · rw [decide_eq_false h0, Bool.not_false, Bool.true_and]
        by_cases a1 : 1 ≤ x.1
        · by_cases a2 : x.1 ≤ 1000
          · by_cases b1 : 1 ≤ x.2
            · by_cases b2 : x.2 ≤ 1000
              · rw [decide_eq_true a1, decide_eq_true a2, decide_eq_true b1, decide_eq_true b2, Bool.true_and, Bool.true_and, Bool.true_and, ← ih]
                (sym => simp [Qa,Qb,Qc,Qd,Qe,Qf,Qg,Qi,Qj,Qr,Qt,Qu,Q4,Xa,Xd,Xt,X5,X8,Ya,Yb,Yc,Yr,Yt,Yz,Y9,Za,Zb,Zc,Ze,Zg,Zh,Zk,Zl,Zm,Zn,Zt,Zv,Zw,Zx,Zy,Zz,Z0,Z3,Ja,Jj,Jk,Jl,Jm,Jn,Jo,Jp,Jr,Js,Jt,Ju,Jv,Ut,Ux,U4,U5,U7,Vb,Vk,Vm,Vo,Vp,Vq,Vr,Vs,Vt,Vu,Vv,Vw,Vx,Vy,Vz,V0,Hh,Hp,Hv,Hw,H1,H5,H6,H8,H9,Ni,Nk,Nl,Nm,No,Nw,Nx,Nz,Be,Bh,Bi,q44R0.eq_1,q44R1.eq_1,q44R2.eq_1,q44R4.eq_1,q44R5.eq_1,q44R6.eq_1,q44R7.eq_1,q44R3.eq_1,q44R8.eq_1,c_ref29_May.eq_1,c_ref29_May_L0.eq_1,hlt',c0,c1,cl,a0,hw,i0,h0,q1,q2,m1,m2,a1,a2,b1,b2])
              · rw [decide_eq_false b2, Bool.and_false, Bool.and_false, Bool.false_and, if_neg (by simp)]
                (sym => simp [Qa,Qb,Qc,Qd,Qe,Qf,Qg,Qi,Qj,Qr,Qt,Qu,Q4,Xa,Xd,Xt,X5,X8,Ya,Yb,Yc,Yr,Yt,Yz,Y9,Za,Zb,Zc,Ze,Zg,Zh,Zk,Zl,Zm,Zn,Zt,Zv,Zw,Zx,Zy,Zz,Z0,Z3,Ja,Jj,Jk,Jl,Jm,Jn,Jo,Jp,Jr,Js,Jt,Ju,Jv,Ut,Ux,U4,U5,U7,Vb,Vk,Vm,Vo,Vp,Vq,Vr,Vs,Vt,Vu,Vv,Vw,Vx,Vy,Vz,V0,Hh,Hp,Hv,Hw,H1,H5,H6,H8,H9,Ni,Nk,Nl,Nm,No,Nw,Nx,Nz,Be,Bh,Bi,q44R0.eq_1,q44R1.eq_1,q44R2.eq_1,q44R4.eq_1,q44R5.eq_1,q44R6.eq_1,q44R7.eq_1,q44R3.eq_1,q44R8.eq_1,c_ref29_May.eq_1,c_ref29_May_L0.eq_1,hlt',c0,c1,cl,a0,hw,i0,h0,q1,q2,m1,m2,a1,a2,b1,b2])
            · rw [decide_eq_false b1, Bool.false_and, Bool.and_false, Bool.false_and, if_neg (by simp)]
              (sym => simp [Qa,Qb,Qc,Qd,Qe,Qf,Qg,Qi,Qj,Qr,Qt,Qu,Q4,Xa,Xd,Xt,X5,X8,Ya,Yb,Yc,Yr,Yt,Yz,Y9,Za,Zb,Zc,Ze,Zg,Zh,Zk,Zl,Zm,Zn,Zt,Zv,Zw,Zx,Zy,Zz,Z0,Z3,Ja,Jj,Jk,Jl,Jm,Jn,Jo,Jp,Jr,Js,Jt,Ju,Jv,Ut,Ux,U4,U5,U7,Vb,Vk,Vm,Vo,Vp,Vq,Vr,Vs,Vt,Vu,Vv,Vw,Vx,Vy,Vz,V0,Hh,Hp,Hv,Hw,H1,H5,H6,H8,H9,Ni,Nk,Nl,Nm,No,Nw,Nx,Nz,Be,Bh,Bi,q44R0.eq_1,q44R1.eq_1,q44R2.eq_1,q44R4.eq_1,q44R5.eq_1,q44R6.eq_1,q44R7.eq_1,q44R3.eq_1,q44R8.eq_1,c_ref29_May.eq_1,c_ref29_May_L0.eq_1,hlt',c0,c1,cl,a0,hw,i0,h0,q1,q2,m1,m2,a1,a2,b1])
          · rw [decide_eq_false a2, Bool.and_false, Bool.false_and, Bool.false_and, if_neg (by simp)]
            (sym => simp [Qa,Qb,Qc,Qd,Qe,Qf,Qg,Qi,Qj,Qr,Qt,Qu,Q4,Xa,Xd,Xt,X5,X8,Ya,Yb,Yc,Yr,Yt,Yz,Y9,Za,Zb,Zc,Ze,Zg,Zh,Zk,Zl,Zm,Zn,Zt,Zv,Zw,Zx,Zy,Zz,Z0,Z3,Ja,Jj,Jk,Jl,Jm,Jn,Jo,Jp,Jr,Js,Jt,Ju,Jv,Ut,Ux,U4,U5,U7,Vb,Vk,Vm,Vo,Vp,Vq,Vr,Vs,Vt,Vu,Vv,Vw,Vx,Vy,Vz,V0,Hh,Hp,Hv,Hw,H1,H5,H6,H8,H9,Ni,Nk,Nl,Nm,No,Nw,Nx,Nz,Be,Bh,Bi,q44R0.eq_1,q44R1.eq_1,q44R2.eq_1,q44R4.eq_1,q44R5.eq_1,q44R6.eq_1,q44R7.eq_1,q44R3.eq_1,q44R8.eq_1,c_ref29_May.eq_1,c_ref29_May_L0.eq_1,hlt',c0,c1,cl,a0,hw,i0,h0,q1,q2,m1,m2,a1,a2])
        · rw [decide_eq_false a1, Bool.false_and, Bool.false_and, Bool.false_and, if_neg (by simp)]
          (sym => simp [Qa,Qb,Qc,Qd,Qe,Qf,Qg,Qi,Qj,Qr,Qt,Qu,Q4,Xa,Xd,Xt,X5,X8,Ya,Yb,Yc,Yr,Yt,Yz,Y9,Za,Zb,Zc,Ze,Zg,Zh,Zk,Zl,Zm,Zn,Zt,Zv,Zw,Zx,Zy,Zz,Z0,Z3,Ja,Jj,Jk,Jl,Jm,Jn,Jo,Jp,Jr,Js,Jt,Ju,Jv,Ut,Ux,U4,U5,U7,Vb,Vk,Vm,Vo,Vp,Vq,Vr,Vs,Vt,Vu,Vv,Vw,Vx,Vy,Vz,V0,Hh,Hp,Hv,Hw,H1,H5,H6,H8,H9,Ni,Nk,Nl,Nm,No,Nw,Nx,Nz,Be,Bh,Bi,q44R0.eq_1,q44R1.eq_1,q44R2.eq_1,q44R4.eq_1,q44R5.eq_1,q44R6.eq_1,q44R7.eq_1,q44R3.eq_1,q44R8.eq_1,c_ref29_May.eq_1,c_ref29_May_L0.eq_1,hlt',c0,c1,cl,a0,hw,i0,h0,q1,q2,m1,m2,a1])
theorem rmay29_P (w : Nat → Int × Int) : aP G FT n_ref29_May [.agg (cellsW w)] = some (.bool (mayW w)) := by
  have key := rmay29_loop G w 9 0 rfl
  have cl := cW_len w
  have cs := cW_st w
  simp only [Int.natCast_zero] at key
  unfold aP mayW
  rw [run_ref29_May]
  cases hm : mayFrom w 9 0 with
  | true => rw [hm, if_pos rfl] at key; (sym => simp [Qb,Qd,Qe,Qi,Qj,Qr,Qw,Yj,Y1,Y5,Y7,Y9,Za,Zb,Zc,Ze,Zg,Zh,Zi,Zj,Zk,Zl,Zm,Zr,Zs,Zt,Zu,Zv,Zw,Jj,Jk,Jl,Jn,Jp,Jq,Jv,Jx,Wk,Hv,Be,q44R0.eq_1,q44R1.eq_1,q44R2.eq_1,q44R4.eq_1,q44R5.eq_1,q44R6.eq_1,q44R7.eq_1,q44R3.eq_1,q44R8.eq_1,c_ref29_May.eq_1,key,cl,cs])
  | false => rw [hm, if_neg (by simp)] at key; (sym => simp [Qb,Qd,Qe,Qi,Qj,Qr,Qw,Yj,Y1,Y5,Y7,Y9,Za,Zb,Zc,Ze,Zg,Zh,Zi,Zj,Zk,Zl,Zm,Zr,Zs,Zt,Zu,Zv,Zw,Jj,Jk,Jl,Jn,Jp,Jq,Jv,Jx,Wk,Hv,Be,q44R0.eq_1,q44R1.eq_1,q44R2.eq_1,q44R4.eq_1,q44R5.eq_1,q44R6.eq_1,q44R7.eq_1,q44R3.eq_1,q44R8.eq_1,c_ref29_May.eq_1,key,cl,cs])
end Go.Proofs.YthcnhibjddomdaaGreat
