/- What size.side, window, member and May come to. Conditions: none. -/
import Derived.Test.YthcnhibjddomdaaGreatCd
import Derived.Test.YthcnhibjddomdaaGreatM3
set_option linter.unusedVariables false
set_option linter.unusedSimpArgs false
set_option linter.unusedSectionVars false
set_option maxRecDepth 20000
set_option maxHeartbeats 1000000
namespace Go.Proofs.YthcnhibjddomdaaGreat
open Go
variable (G : Nat → Option (List AV))
def sideB (n : Int) : Bool := decide (1 ≤ n) && decide (n ≤ 1000)
theorem side_P (n : Int) : aP G FT n_size_side [.int .i64 n] = some (.bool (sideB n)) := by
  unfold aP sideB
  rw [run_size_side]
  by_cases h1 : 1 ≤ n
  · (sym => simp [Qb,Qd,Qe,Qf,Qg,Qi,Qj,Qr,Qt,Qu,Xa,Yb,Yd,Y1,Y5,Y7,Y9,Za,Zb,Zc,Ze,Zg,Zh,Zi,Zj,Zk,Zl,Zm,Zr,Zs,Zt,Zu,Zv,Zw,Z3,Ja,Jj,Jk,Jv,Jx,Wk,Nl,Nm,Np,Nr,Be,q91R0.eq_1,q91R1.eq_1,c_size_side.eq_1,h1])
  · (sym => simp [Qb,Qd,Qe,Qf,Qg,Qi,Qj,Qr,Qt,Qu,Xa,Yb,Yd,Y1,Y5,Y7,Y9,Za,Zb,Zc,Ze,Zg,Zh,Zi,Zj,Zk,Zl,Zm,Zr,Zs,Zt,Zu,Zv,Zw,Z3,Ja,Jj,Jk,Jv,Jx,Wk,Nl,Nm,Np,Nr,Be,q91R0.eq_1,q91R1.eq_1,c_size_side.eq_1,h1])
def winB (p : Int × Int) : Bool := (decide (p.1 = 0) && decide (p.2 = 0)) || (sideB p.1 && sideB p.2)
theorem window_P (p : Int × Int) : aP G FT n_size_window [.agg [.int .i64 p.1, .int .i64 p.2]] = some (.bool (winB p)) := by
  obtain ⟨a, b⟩ := p
  unfold aP winB
  rw [run_size_window]
  have hS := side_P G
  simp only
  by_cases h1 : a = 0
  · by_cases h2 : b = 0
    · (sym => simp [Qb,Qd,Qe,Qf,Qg,Qh,Qi,Qj,Qm,Qn,Qo,Qr,Qt,Qu,Qw,Qx,Q1,Q4,Xb,Xt,Yj,Yr,Yt,Yu,Yz,Y1,Y5,Y7,Y9,Za,Zb,Zc,Ze,Zg,Zh,Zi,Zj,Zk,Zl,Zm,Zn,Zo,Zr,Zs,Zt,Zu,Zv,Zw,Zy,Z0,Z3,Ja,Jb,Jh,Jj,Jk,Jv,Jx,Kh,Kk,Kl,Km,K8,Ue,Uf,Ug,V6,Wd,We,Wk,Hh,Hi,Ho,Hq,Hs,Hv,Nl,Nm,No,Np,Nq,Nr,Nt,Nu,Nv,Nw,Nx,Nz,Be,Bh,Bi,q92R0.eq_1,q92R1.eq_1,c_size_window.eq_1,hS,h1,h2])
    · have hs : sideB 0 = false := by decide
      (sym => simp [Qb,Qd,Qe,Qf,Qg,Qh,Qi,Qj,Qm,Qn,Qo,Qr,Qt,Qu,Qw,Qx,Q1,Q4,Xb,Xt,Yj,Yr,Yt,Yu,Yz,Y1,Y5,Y7,Y9,Za,Zb,Zc,Ze,Zg,Zh,Zi,Zj,Zk,Zl,Zm,Zn,Zo,Zr,Zs,Zt,Zu,Zv,Zw,Zy,Z0,Z3,Ja,Jb,Jh,Jj,Jk,Jv,Jx,Kh,Kk,Kl,Km,K8,Ue,Uf,Ug,V6,Wd,We,Wk,Hh,Hi,Ho,Hq,Hs,Hv,Nl,Nm,No,Np,Nq,Nr,Nt,Nu,Nv,Nw,Nx,Nz,Be,Bh,Bi,q92R0.eq_1,q92R1.eq_1,c_size_window.eq_1,hS,h1,h2,hs])
  · cases hs : sideB a with
    | true => (sym => simp [Qb,Qd,Qe,Qf,Qg,Qh,Qi,Qj,Qm,Qn,Qo,Qr,Qt,Qu,Qw,Qx,Q1,Q4,Xb,Xt,Yj,Yr,Yt,Yu,Yz,Y1,Y5,Y7,Y9,Za,Zb,Zc,Ze,Zg,Zh,Zi,Zj,Zk,Zl,Zm,Zn,Zo,Zr,Zs,Zt,Zu,Zv,Zw,Zy,Z0,Z3,Ja,Jb,Jh,Jj,Jk,Jv,Jx,Kh,Kk,Kl,Km,K8,Ue,Uf,Ug,V6,Wd,We,Wk,Hh,Hi,Ho,Hq,Hs,Hv,Nl,Nm,No,Np,Nq,Nr,Nt,Nu,Nv,Nw,Nx,Nz,Be,Bh,Bi,q92R0.eq_1,q92R1.eq_1,c_size_window.eq_1,hS,h1,hs])
    | false => (sym => simp [Qb,Qd,Qe,Qf,Qg,Qh,Qi,Qj,Qm,Qn,Qo,Qr,Qt,Qu,Qw,Qx,Q1,Q4,Xb,Xt,Yj,Yr,Yt,Yu,Yz,Y1,Y5,Y7,Y9,Za,Zb,Zc,Ze,Zg,Zh,Zi,Zj,Zk,Zl,Zm,Zn,Zo,Zr,Zs,Zt,Zu,Zv,Zw,Zy,Z0,Z3,Ja,Jb,Jh,Jj,Jk,Jv,Jx,Kh,Kk,Kl,Km,K8,Ue,Uf,Ug,V6,Wd,We,Wk,Hh,Hi,Ho,Hq,Hs,Hv,Nl,Nm,No,Np,Nq,Nr,Nt,Nu,Nv,Nw,Nx,Nz,Be,Bh,Bi,q92R0.eq_1,q92R1.eq_1,c_size_window.eq_1,hS,h1,hs])
/-- Windows as cells. -/
def cellsW (w : Nat → Int × Int) : List AV := [.int .i64 (w 0).1, .int .i64 (w 0).2, .int .i64 (w 1).1, .int .i64 (w 1).2, .int .i64 (w 2).1, .int .i64 (w 2).2, .int .i64 (w 3).1, .int .i64 (w 3).2, .int .i64 (w 4).1, .int .i64 (w 4).2,
  .int .i64 (w 5).1, .int .i64 (w 5).2, .int .i64 (w 6).1, .int .i64 (w 6).2, .int .i64 (w 7).1, .int .i64 (w 7).2, .int .i64 (w 8).1, .int .i64 (w 8).2]
theorem cW_len (w : Nat → Int × Int) : (cellsW w).length = 18 := rfl
theorem cW_st (w : Nat → Int × Int) : AV.stableL (cellsW w) = true := by simp [cellsW, AV.stableL, AV.stable]
theorem cW_v (w : Nat → Int × Int) (h : List ARow) : aviewL h (cellsW w) = some (cellsW w) := by simp [cellsW, aviewL, aview]
theorem nine {n : Nat} (h : n < 9) : n = 0 ∨ n = 1 ∨ n = 2 ∨ n = 3 ∨ n = 4 ∨ n = 5 ∨ n = 6 ∨ n = 7 ∨ n = 8 := by omega
theorem cW_cut (w : Nat → Int × Int) {n : Nat} (h : n < 9) : ((cellsW w).drop (n * 2)).take 2 = [.int .i64 (w n).1, .int .i64 (w n).2] := by
  rcases nine h with rfl | rfl | rfl | rfl | rfl | rfl | rfl | rfl | rfl <;> rfl
theorem cW_0 (w : Nat → Int × Int) {n : Nat} (h : n < 9) : (cellsW w)[n * 2]? = some (.int .i64 (w n).1) := by
  rcases nine h with rfl | rfl | rfl | rfl | rfl | rfl | rfl | rfl | rfl <;> rfl
theorem cW_1 (w : Nat → Int × Int) {n : Nat} (h : n < 9) : (cellsW w)[n * 2 + 1]? = some (.int .i64 (w n).2) := by
  rcases nine h with rfl | rfl | rfl | rfl | rfl | rfl | rfl | rfl | rfl <;> rfl
/-- May a member's window be? -/
def okW (w : Nat → Int × Int) (k : Nat) : Bool := winB (w k) && (!decide (k = 0) || (decide ((w k).1 = 0) && decide ((w k).2 = 0)))
def mayFrom (w : Nat → Int × Int) : Nat → Nat → Bool
  | 0, _ => true
  | m + 1, i => okW w i && mayFrom w m (i + 1)
def mayW (w : Nat → Int × Int) : Bool := mayFrom w 9 0
theorem sMay_loop (w : Nat → Int × Int) : ∀ (m i : Nat), i + m = 9 →
    aE G FT 0 lp_size_May_0 ⟨[(1, .ptr 0 0 0 0), (4, .int .i64 i)], [⟨18, 0, true, [cellsW w]⟩]⟩ =
      if mayFrom w m i = true then some (.exit 0, ⟨[(1, .ptr 0 0 0 0), (4, .int .i64 9), (5, .bool false)], [⟨18, 0, true, [cellsW w]⟩]⟩)
      else some (.ret, ⟨[(2, .bool false)], [⟨18, 0, true, [cellsW w]⟩]⟩) := by
  intro m
  induction m with
  | zero =>
    intro i hi
    rw [lp_size_May_0, y_loop]
    obtain rfl : i = 9 := by omega
    rw [mayFrom, if_pos rfl]
    have e : ((9 : Nat) : Int) = 9 := rfl
    (sym => simp [Qa,Qb,Qc,Qd,Qe,Qf,Qg,Qh,Qi,Qj,Qm,Qn,Qo,Qr,Qt,Qu,Qx,Q1,Q4,Xa,Xb,Xd,Xt,X5,X8,Ya,Yr,Yu,Yz,Y9,Za,Zb,Zc,Ze,Zg,Zh,Zk,Zl,Zm,Zn,Zo,Zt,Zv,Zw,Zx,Zy,Zz,Z0,Z3,Ja,Jb,Jg,Jj,Jk,Jl,Jm,Jn,Jo,Jp,Jr,Js,Jt,Ju,Jv,Kh,Kk,Kl,Km,K8,Ut,Ux,U4,U5,U7,Vb,Vk,Vm,Vo,Vp,Vq,Vr,Vs,Vt,Vu,Vv,Vw,Vx,Vy,Vz,V0,V3,V6,Wd,We,Hh,Hp,Hs,Hv,Hw,H1,H5,H6,H8,Ni,Nk,Nl,Nm,No,Nq,Nr,Nw,Nx,Nz,Be,Bh,Bi,q88R0.eq_1,q88R1.eq_1,q88R2.eq_1,q88R3.eq_1,q88R4.eq_1,q88R5.eq_1,q88R6.eq_1,q88R7.eq_1,c_size_May.eq_1,c_size_May_L0.eq_1,e])
  | succ m ih =>
    intro i hi
    have ih := ih (i + 1) (by omega)
    rw [lp_size_May_0] at ih
    rw [lp_size_May_0, y_loop]
    have hW := window_P G (w i)
    have hlt : i < 9 := by omega
    have hlt' : (i : Int) < 9 := by omega
    have hc := cW_cut w hlt
    have hl : i * 2 + 2 ≤ 18 := by omega
    have hw := wrap_nat (n := i) (by omega)
    have h0i : 0 ≤ (i : Int) := by omega
    have cl := cW_len w
    rw [mayFrom]
    by_cases hk : winB (w i) = true
    · by_cases h0 : i = 0
      · subst h0
        have e0 : ((0 : Nat) : Int) = 0 := rfl
        have e1 : ((0 + 1 : Nat) : Int) = 1 := rfl
        have hw1 : IntKind.i64.wrap 1 = 1 := by decide
        have hc : List.take 2 (cellsW w) = [.int .i64 (w 0).1, .int .i64 (w 0).2] := rfl
        have hz : okW w 0 = (decide ((w 0).1 = 0) && decide ((w 0).2 = 0)) := by simp [okW, hk]
        rw [hz]
        by_cases ha : (w 0).1 = 0
        · by_cases hb : (w 0).2 = 0
          · simp only [ha, hb, decide_true, Bool.true_and]
            rw [← ih]
            simp only [ha, hb] at hW
            (sym => simp [Qa,Qb,Qc,Qd,Qe,Qf,Qg,Qh,Qi,Qj,Qm,Qn,Qo,Qr,Qt,Qu,Qx,Q1,Q4,Xa,Xb,Xd,Xt,X5,X8,Ya,Yr,Yu,Yz,Y9,Za,Zb,Zc,Ze,Zg,Zh,Zk,Zl,Zm,Zn,Zo,Zt,Zv,Zw,Zx,Zy,Zz,Z0,Z3,Ja,Jb,Jg,Jj,Jk,Jl,Jm,Jn,Jo,Jp,Jr,Js,Jt,Ju,Jv,Kh,Kk,Kl,Km,K8,Ut,Ux,U4,U5,U7,Vb,Vk,Vm,Vo,Vp,Vq,Vr,Vs,Vt,Vu,Vv,Vw,Vx,Vy,Vz,V0,V3,V6,Wd,We,Hh,Hp,Hs,Hv,Hw,H1,H5,H6,H8,Ni,Nk,Nl,Nm,No,Nq,Nr,Nw,Nx,Nz,Be,Bh,Bi,q88R0.eq_1,q88R1.eq_1,q88R2.eq_1,q88R3.eq_1,q88R4.eq_1,q88R5.eq_1,q88R6.eq_1,q88R7.eq_1,c_size_May.eq_1,c_size_May_L0.eq_1,hW,hk,hc,cl,ha,hb,e0,e1,hw1])
          · simp only [ha, hb, decide_true, decide_false, Bool.false_and, Bool.true_and, Bool.false_eq_true, if_false]
            simp only [ha] at hW
            (sym => simp [Qa,Qb,Qc,Qd,Qe,Qf,Qg,Qh,Qi,Qj,Qm,Qn,Qo,Qr,Qt,Qu,Qx,Q1,Q4,Xa,Xb,Xd,Xt,X5,X8,Ya,Yr,Yu,Yz,Y9,Za,Zb,Zc,Ze,Zg,Zh,Zk,Zl,Zm,Zn,Zo,Zt,Zv,Zw,Zx,Zy,Zz,Z0,Z3,Ja,Jb,Jg,Jj,Jk,Jl,Jm,Jn,Jo,Jp,Jr,Js,Jt,Ju,Jv,Kh,Kk,Kl,Km,K8,Ut,Ux,U4,U5,U7,Vb,Vk,Vm,Vo,Vp,Vq,Vr,Vs,Vt,Vu,Vv,Vw,Vx,Vy,Vz,V0,V3,V6,Wd,We,Hh,Hp,Hs,Hv,Hw,H1,H5,H6,H8,Ni,Nk,Nl,Nm,No,Nq,Nr,Nw,Nx,Nz,Be,Bh,Bi,q88R0.eq_1,q88R1.eq_1,q88R2.eq_1,q88R3.eq_1,q88R4.eq_1,q88R5.eq_1,q88R6.eq_1,q88R7.eq_1,c_size_May.eq_1,c_size_May_L0.eq_1,hW,hk,hc,cl,ha,hb,e0,hw])
        · simp only [ha, decide_false, Bool.false_and, Bool.false_eq_true, if_false]
          (sym => simp [Qa,Qb,Qc,Qd,Qe,Qf,Qg,Qh,Qi,Qj,Qm,Qn,Qo,Qr,Qt,Qu,Qx,Q1,Q4,Xa,Xb,Xd,Xt,X5,X8,Ya,Yr,Yu,Yz,Y9,Za,Zb,Zc,Ze,Zg,Zh,Zk,Zl,Zm,Zn,Zo,Zt,Zv,Zw,Zx,Zy,Zz,Z0,Z3,Ja,Jb,Jg,Jj,Jk,Jl,Jm,Jn,Jo,Jp,Jr,Js,Jt,Ju,Jv,Kh,Kk,Kl,Km,K8,Ut,Ux,U4,U5,U7,Vb,Vk,Vm,Vo,Vp,Vq,Vr,Vs,Vt,Vu,Vv,Vw,Vx,Vy,Vz,V0,V3,V6,Wd,We,Hh,Hp,Hs,Hv,Hw,H1,H5,H6,H8,Ni,Nk,Nl,Nm,No,Nq,Nr,Nw,Nx,Nz,Be,Bh,Bi,q88R0.eq_1,q88R1.eq_1,q88R2.eq_1,q88R3.eq_1,q88R4.eq_1,q88R5.eq_1,q88R6.eq_1,q88R7.eq_1,c_size_May.eq_1,c_size_May_L0.eq_1,hW,hk,hc,cl,ha,e0,hw])
      · have hz : okW w i = true := by simp [okW, hk, h0]
        have h0' : ¬ (i : Int) = 0 := by omega
        rw [hz, Bool.true_and, ← ih]
        (sym => simp [Qa,Qb,Qc,Qd,Qe,Qf,Qg,Qh,Qi,Qj,Qm,Qn,Qo,Qr,Qt,Qu,Qx,Q1,Q4,Xa,Xb,Xd,Xt,X5,X8,Ya,Yr,Yu,Yz,Y9,Za,Zb,Zc,Ze,Zg,Zh,Zk,Zl,Zm,Zn,Zo,Zt,Zv,Zw,Zx,Zy,Zz,Z0,Z3,Ja,Jb,Jg,Jj,Jk,Jl,Jm,Jn,Jo,Jp,Jr,Js,Jt,Ju,Jv,Kh,Kk,Kl,Km,K8,Ut,Ux,U4,U5,U7,Vb,Vk,Vm,Vo,Vp,Vq,Vr,Vs,Vt,Vu,Vv,Vw,Vx,Vy,Vz,V0,V3,V6,Wd,We,Hh,Hp,Hs,Hv,Hw,H1,H5,H6,H8,Ni,Nk,Nl,Nm,No,Nq,Nr,Nw,Nx,Nz,Be,Bh,Bi,q88R0.eq_1,q88R1.eq_1,q88R2.eq_1,q88R3.eq_1,q88R4.eq_1,q88R5.eq_1,q88R6.eq_1,q88R7.eq_1,c_size_May.eq_1,c_size_May_L0.eq_1,hW,hk,hc,hl,cl,hlt',h0i,h0',hw])
    · have hk' : winB (w i) = false := by simpa using hk
      have hz : okW w i = false := by simp [okW, hk']
      rw [hz, Bool.false_and, if_neg (by simp)]
      (sym => simp [Qa,Qb,Qc,Qd,Qe,Qf,Qg,Qh,Qi,Qj,Qm,Qn,Qo,Qr,Qt,Qu,Qx,Q1,Q4,Xa,Xb,Xd,Xt,X5,X8,Ya,Yr,Yu,Yz,Y9,Za,Zb,Zc,Ze,Zg,Zh,Zk,Zl,Zm,Zn,Zo,Zt,Zv,Zw,Zx,Zy,Zz,Z0,Z3,Ja,Jb,Jg,Jj,Jk,Jl,Jm,Jn,Jo,Jp,Jr,Js,Jt,Ju,Jv,Kh,Kk,Kl,Km,K8,Ut,Ux,U4,U5,U7,Vb,Vk,Vm,Vo,Vp,Vq,Vr,Vs,Vt,Vu,Vv,Vw,Vx,Vy,Vz,V0,V3,V6,Wd,We,Hh,Hp,Hs,Hv,Hw,H1,H5,H6,H8,Ni,Nk,Nl,Nm,No,Nq,Nr,Nw,Nx,Nz,Be,Bh,Bi,q88R0.eq_1,q88R1.eq_1,q88R2.eq_1,q88R3.eq_1,q88R4.eq_1,q88R5.eq_1,q88R6.eq_1,q88R7.eq_1,c_size_May.eq_1,c_size_May_L0.eq_1,hW,hk',hc,hl,cl,hlt',h0i,hw])
theorem sMay_P (w : Nat → Int × Int) : aP G FT n_size_May [.agg (cellsW w)] = some (.bool (mayW w)) := by
  unfold aP mayW
  rw [run_size_May]
  have key := sMay_loop G w 9 0 rfl
  have e0 : ((0 : Nat) : Int) = 0 := rfl
  rw [e0] at key
  have cl := cW_len w
  have cs := cW_st w
  cases hm : mayFrom w 9 0 with
  | true => rw [hm, if_pos rfl] at key; (sym => simp [Qb,Qd,Qe,Qi,Qj,Qr,Qw,Yj,Y1,Y5,Y7,Y9,Za,Zb,Zc,Ze,Zg,Zh,Zi,Zj,Zk,Zl,Zm,Zr,Zs,Zt,Zu,Zv,Zw,Jj,Jk,Jl,Jn,Jp,Jq,Jv,Jx,Wk,Hv,Be,q88R0.eq_1,q88R1.eq_1,q88R2.eq_1,q88R3.eq_1,q88R4.eq_1,q88R5.eq_1,q88R6.eq_1,q88R7.eq_1,c_size_May.eq_1,key,cl,cs])
  | false => rw [hm, if_neg (by simp)] at key; (sym => simp [Qb,Qd,Qe,Qi,Qj,Qr,Qw,Yj,Y1,Y5,Y7,Y9,Za,Zb,Zc,Ze,Zg,Zh,Zi,Zj,Zk,Zl,Zm,Zr,Zs,Zt,Zu,Zv,Zw,Jj,Jk,Jl,Jn,Jp,Jq,Jv,Jx,Wk,Hv,Be,q88R0.eq_1,q88R1.eq_1,q88R2.eq_1,q88R3.eq_1,q88R4.eq_1,q88R5.eq_1,q88R6.eq_1,q88R7.eq_1,c_size_May.eq_1,key,cl,cs])
end Go.Proofs.YthcnhibjddomdaaGreat
