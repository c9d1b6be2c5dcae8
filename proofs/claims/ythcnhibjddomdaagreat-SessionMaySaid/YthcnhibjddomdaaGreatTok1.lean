/- What token.number, slices.Index and token.May come to. Conditions: none. -/
import Derived.Test.YthcnhibjddomdaaGreatCd
import Derived.Test.YthcnhibjddomdaaGreatM3
set_option linter.unusedVariables false
set_option linter.unusedSimpArgs false
set_option linter.unusedSectionVars false
set_option maxRecDepth 20000
namespace Go.Proofs.YthcnhibjddomdaaGreat
open Go
variable (G : Nat → Option (List AV))
def numB (n : Int) : Bool := decide (1 ≤ n) && decide (n ≤ 8)
theorem numB_iff (n : Int) : numB n = true ↔ 1 ≤ n ∧ n ≤ 8 := by simp [numB]
theorem number_P (n : Int) : aP G FT n_token_number [.int .i64 n] = some (.bool (numB n)) := by
  unfold aP numB
  rw [run_token_number]
  by_cases h1 : 1 ≤ n
  · (sym => simp [Qb,Qd,Qe,Qf,Qg,Qi,Qj,Qr,Qt,Qu,Xa,Yb,Yd,Y1,Y5,Y7,Y9,Za,Zb,Zc,Ze,Zg,Zh,Zi,Zj,Zk,Zl,Zm,Zr,Zs,Zt,Zu,Zv,Zw,Z3,Ja,Jj,Jk,Jv,Jx,Wk,Nl,Nm,Np,Nr,Be,q127R0.eq_1,q127R1.eq_1,c_token_number.eq_1,h1])
  · (sym => simp [Qb,Qd,Qe,Qf,Qg,Qi,Qj,Qr,Qt,Qu,Xa,Yb,Yd,Y1,Y5,Y7,Y9,Za,Zb,Zc,Ze,Zg,Zh,Zi,Zj,Zk,Zl,Zm,Zr,Zs,Zt,Zu,Zv,Zw,Z3,Ja,Jj,Jk,Jv,Jx,Wk,Nl,Nm,Np,Nr,Be,q127R0.eq_1,q127R1.eq_1,c_token_number.eq_1,h1])
/-! ### May -/
def mayRun : List Int → List Int → Bool × List Int
  | seen, [] => (true, seen)
  | seen, x :: l => if numB x = true ∧ x ∉ seen then mayRun (x :: seen) l else (false, seen)
def seenC (s : List Int) : List AV := (List.range 9).map fun (k : Nat) => .bool (decide ((k : Int) ∈ s))
theorem seenC_get (s : List Int) (n : Int) (h1 : 1 ≤ n) (h2 : n ≤ 8) : (seenC s)[n.toNat]? = some (.bool (decide (n ∈ s))) := by
  obtain ⟨k, rfl⟩ : ∃ k : Nat, n = k := ⟨n.toNat, by omega⟩
  have : k < 9 := by omega
  simp [seenC, this]
theorem seenC_set (s : List Int) (n : Int) (h1 : 1 ≤ n) (h2 : n ≤ 8) : (seenC s).set n.toNat (.bool true) = seenC (n :: s) := by
  obtain ⟨k, rfl⟩ : ∃ k : Nat, n = k := ⟨n.toNat, by omega⟩
  have hk : k < 9 := by omega
  apply List.ext_getElem?
  intro i
  simp only [seenC, List.getElem?_set, List.length_map, List.length_range, List.getElem?_map, Int.toNat_natCast]
  by_cases e : k = i
  · subst e; simp [hk]
  · rw [if_neg e]
    by_cases hi : i < 9
    · have e2 : ¬ (i : Int) = (k : Int) := by omega
      simp [hi, e2]
    · simp [hi]
theorem seenC_len (s : List Int) : (seenC s).length = 9 := by simp [seenC]
theorem seenC_nil : [.bool false, .bool false, .bool false, .bool false, .bool false, .bool false, .bool false, .bool false, .bool false] = seenC [] := by simp [seenC, List.range_succ]
theorem may_loop (l : List Int) (hl : l.length < 9223372036854775807) : ∀ (m i : Nat) (seen : List Int), i + m = l.length →
    aE G FT 0 lp_token_May_0 ⟨[(3, .ptr 0 0 0 0), (18, .own 1 0 0 l.length l.length), (19, .int .i64 l.length), (20, .int .i64 i)], [⟨9, 0, true, [seenC seen]⟩, ⟨1, 0, true, ints l⟩]⟩ =
      some (if (mayRun seen (l.drop i)).1 = true then (.exit 0, ⟨[(3, .ptr 0 0 0 0), (18, .own 1 0 0 l.length l.length), (19, .int .i64 l.length), (20, .int .i64 l.length), (21, .bool false)], [⟨9, 0, true, [seenC (mayRun seen (l.drop i)).2]⟩, ⟨1, 0, true, ints l⟩]⟩)
      else (.ret, ⟨[(2, .bool false)], [⟨9, 0, true, [seenC (mayRun seen (l.drop i)).2]⟩, ⟨1, 0, true, ints l⟩]⟩)) := by
  intro m
  induction m with
  | zero =>
    intro i seen hi
    rw [lp_token_May_0, y_loop]
    have e : l.drop i = [] := List.drop_eq_nil_of_le (by omega)
    have ei : i = l.length := by omega
    subst ei
    have e0 : decide ((l.length : Int) < l.length) = false := by simp
    rw [e, mayRun, if_pos rfl]
    (sym => simp [Qa,Qb,Qc,Qd,Qe,Qf,Qg,Qi,Qj,Qm,Qn,Qo,Qr,Qt,Qu,Q4,Q5,Xa,Xd,Xs,Xt,X5,Ya,Yr,Yt,Yx,Yz,Y9,Za,Zb,Zc,Zd,Ze,Zg,Zh,Zk,Zl,Zm,Zn,Zo,Zt,Zv,Zw,Zx,Zy,Zz,Z0,Z1,Z3,Jb,Jj,Jk,Jl,Jm,Jn,Jo,Jp,Jr,Js,Jt,Ju,Jv,J4,Us,Ut,Ux,U4,U5,U6,U7,Vb,Vk,Vm,Vo,Vp,Vq,Vr,Vs,Vt,Vu,Vv,Vw,Vx,Vy,Vz,V0,V6,Wd,We,Hh,Hi,Hk,Hp,Hu,Hv,Hw,H1,H4,H5,H6,H8,Nc,Ni,Nk,Nl,Nm,No,Nu,Nw,Nx,Nz,Be,Bh,q123R0.eq_1,q123R1.eq_1,q123R2.eq_1,q123R3.eq_1,q123R4.eq_1,q123R5.eq_1,q123R6.eq_1,q123R7.eq_1,q123R8.eq_1,q123R9.eq_1,q123R10.eq_1,q123R11.eq_1,c_token_May.eq_1,c_token_May_L0.eq_1,e0])
  | succ m ih =>
    intro i seen hi
    have ih := ih (i + 1)
    rw [lp_token_May_0] at ih
    rw [lp_token_May_0, y_loop]
    have hlt : i < l.length := by omega
    have hlt' : (i : Int) < l.length := by omega
    have e : l.drop i = l[i] :: l.drop (i + 1) := List.drop_eq_getElem_cons hlt
    have hw := wrap_nat (n := i) (by omega)
    have hg := ints_at hlt
    rw [e]
    have hN := number_P G
    generalize l[i] = x at hg
    by_cases hn : numB x = true
    · obtain ⟨h1, h8⟩ := (numB_iff x).1 hn
      have h0 : 0 ≤ x := by omega
      have h9 : x < 9 := by omega
      have h9' : x.toNat < 9 := by omega
      have sg := seenC_get seen x h1 h8
      by_cases hs : x ∈ seen
      · rw [show mayRun seen (x :: l.drop (i + 1)) = (false, seen) by rw [mayRun, if_neg (by simp [hs])]]
        (sym => simp [Qa,Qb,Qc,Qd,Qe,Qf,Qg,Qi,Qj,Qm,Qn,Qo,Qr,Qt,Qu,Q4,Q5,Xa,Xd,Xs,Xt,X5,Ya,Yr,Yt,Yx,Yz,Y9,Za,Zb,Zc,Zd,Ze,Zg,Zh,Zk,Zl,Zm,Zn,Zo,Zt,Zv,Zw,Zx,Zy,Zz,Z0,Z1,Z3,Jb,Jj,Jk,Jl,Jm,Jn,Jo,Jp,Jr,Js,Jt,Ju,Jv,J4,Us,Ut,Ux,U4,U5,U6,U7,Vb,Vk,Vm,Vo,Vp,Vq,Vr,Vs,Vt,Vu,Vv,Vw,Vx,Vy,Vz,V0,V6,Wd,We,Hh,Hi,Hk,Hp,Hu,Hv,Hw,H1,H4,H5,H6,H8,Nc,Ni,Nk,Nl,Nm,No,Nu,Nw,Nx,Nz,Be,Bh,q123R0.eq_1,q123R1.eq_1,q123R2.eq_1,q123R3.eq_1,q123R4.eq_1,q123R5.eq_1,q123R6.eq_1,q123R7.eq_1,q123R8.eq_1,q123R9.eq_1,q123R10.eq_1,q123R11.eq_1,c_token_May.eq_1,c_token_May_L0.eq_1,hlt',hg,hN,hn,hs,h0,h9,sg,hw])
      · rw [show mayRun seen (x :: l.drop (i + 1)) = mayRun (x :: seen) (l.drop (i + 1)) by rw [mayRun, if_pos ⟨hn, hs⟩], ← ih (x :: seen) (by omega)]
        have ss := seenC_set seen x h1 h8
        have sl := seenC_len seen
        (sym => simp [Qa,Qb,Qc,Qd,Qe,Qf,Qg,Qi,Qj,Qm,Qn,Qo,Qr,Qt,Qu,Q4,Q5,Xa,Xd,Xs,Xt,X5,Ya,Yr,Yt,Yx,Yz,Y9,Za,Zb,Zc,Zd,Ze,Zg,Zh,Zk,Zl,Zm,Zn,Zo,Zt,Zv,Zw,Zx,Zy,Zz,Z0,Z1,Z3,Jb,Jj,Jk,Jl,Jm,Jn,Jo,Jp,Jr,Js,Jt,Ju,Jv,J4,Us,Ut,Ux,U4,U5,U6,U7,Vb,Vk,Vm,Vo,Vp,Vq,Vr,Vs,Vt,Vu,Vv,Vw,Vx,Vy,Vz,V0,V6,Wd,We,Hh,Hi,Hk,Hp,Hu,Hv,Hw,H1,H4,H5,H6,H8,Nc,Ni,Nk,Nl,Nm,No,Nu,Nw,Nx,Nz,Be,Bh,q123R0.eq_1,q123R1.eq_1,q123R2.eq_1,q123R3.eq_1,q123R4.eq_1,q123R5.eq_1,q123R6.eq_1,q123R7.eq_1,q123R8.eq_1,q123R9.eq_1,q123R10.eq_1,q123R11.eq_1,c_token_May.eq_1,c_token_May_L0.eq_1,hlt',hg,hN,hn,hs,h0,h9,h9',sg,ss,sl,hw])
    · have hn' : numB x = false := by simpa using hn
      rw [show mayRun seen (x :: l.drop (i + 1)) = (false, seen) by rw [mayRun, if_neg (by simp [hn])]]
      (sym => simp [Qa,Qb,Qc,Qd,Qe,Qf,Qg,Qi,Qj,Qm,Qn,Qo,Qr,Qt,Qu,Q4,Q5,Xa,Xd,Xs,Xt,X5,Ya,Yr,Yt,Yx,Yz,Y9,Za,Zb,Zc,Zd,Ze,Zg,Zh,Zk,Zl,Zm,Zn,Zo,Zt,Zv,Zw,Zx,Zy,Zz,Z0,Z1,Z3,Jb,Jj,Jk,Jl,Jm,Jn,Jo,Jp,Jr,Js,Jt,Ju,Jv,J4,Us,Ut,Ux,U4,U5,U6,U7,Vb,Vk,Vm,Vo,Vp,Vq,Vr,Vs,Vt,Vu,Vv,Vw,Vx,Vy,Vz,V0,V6,Wd,We,Hh,Hi,Hk,Hp,Hu,Hv,Hw,H1,H4,H5,H6,H8,Nc,Ni,Nk,Nl,Nm,No,Nu,Nw,Nx,Nz,Be,Bh,q123R0.eq_1,q123R1.eq_1,q123R2.eq_1,q123R3.eq_1,q123R4.eq_1,q123R5.eq_1,q123R6.eq_1,q123R7.eq_1,q123R8.eq_1,q123R9.eq_1,q123R10.eq_1,q123R11.eq_1,c_token_May.eq_1,c_token_May_L0.eq_1,hlt',hg,hN,hn',hw])
/-- May a token be? -/
def mayT (h : Int) (q : List Int) : Bool := if h = 0 then q.isEmpty else (mayRun [] (h :: q)).1
theorem may_P (h : Int) (q : List Int) (b f : Bool) (hl : q.length ≤ 1000) : aP G FT n_token_May [.agg [.int .i64 h, .data b 1 (ints q) f]] = some (.bool (mayT h q)) := by
  unfold aP mayT
  rw [run_token_May]
  by_cases h0 : h = 0
  · cases q with
    | nil => (sym => simp [Qb,Qc,Qd,Qe,Qi,Qj,Qr,Qt,Qv,Qw,Qz,Q0,Q2,Q4,Xa,Xp,Xy,X0,X8,Yg,Yh,Yj,Yk,Yr,Yt,Yv,Y1,Y3,Y5,Y7,Y9,Za,Zb,Zc,Ze,Zg,Zh,Zi,Zj,Zk,Zl,Zm,Zn,Zr,Zs,Zt,Zu,Zv,Zw,Zx,Zy,Zz,Z0,Z3,Jj,Jk,Jl,Jn,Jp,Jq,Jr,Jv,Jx,Kv,Kx,Ua,Ub,Uc,Ud,Ue,Uf,Ug,Uh,Ul,Us,Ut,Ux,U4,U5,U6,U7,Vb,Vk,Vm,Vo,Vp,Vq,Vr,Vs,Vt,Vu,Vv,Vw,Vx,Vy,Vz,V0,Wk,Hh,Hi,Hk,Hl,Ho,Hp,Hq,Hs,Hu,Hv,Hw,H1,H2,H3,H4,H5,H6,Nl,Nm,No,Np,Nu,Nx,Nz,N2,Be,Bg,Bh,q123R0.eq_1,q123R1.eq_1,q123R2.eq_1,q123R3.eq_1,q123R4.eq_1,q123R5.eq_1,q123R6.eq_1,q123R7.eq_1,q123R8.eq_1,q123R9.eq_1,q123R10.eq_1,q123R11.eq_1,c_token_May.eq_1,h0,ints_nil,List.isEmpty_nil,if_true])
    | cons x q =>
      have hne : ¬ (((ints (x :: q)).length : Int) = 0) := by simp [ints]; omega
      (sym => simp [Qb,Qc,Qd,Qe,Qi,Qj,Qr,Qt,Qv,Qw,Qz,Q0,Q2,Q4,Xa,Xp,Xy,X0,X8,Yg,Yh,Yj,Yk,Yr,Yt,Yv,Y1,Y3,Y5,Y7,Y9,Za,Zb,Zc,Ze,Zg,Zh,Zi,Zj,Zk,Zl,Zm,Zn,Zr,Zs,Zt,Zu,Zv,Zw,Zx,Zy,Zz,Z0,Z3,Jj,Jk,Jl,Jn,Jp,Jq,Jr,Jv,Jx,Kv,Kx,Ua,Ub,Uc,Ud,Ue,Uf,Ug,Uh,Ul,Us,Ut,Ux,U4,U5,U6,U7,Vb,Vk,Vm,Vo,Vp,Vq,Vr,Vs,Vt,Vu,Vv,Vw,Vx,Vy,Vz,V0,Wk,Hh,Hi,Hk,Hl,Ho,Hp,Hq,Hs,Hu,Hv,Hw,H1,H2,H3,H4,H5,H6,Nl,Nm,No,Np,Nu,Nx,Nz,N2,Be,Bg,Bh,q123R0.eq_1,q123R1.eq_1,q123R2.eq_1,q123R3.eq_1,q123R4.eq_1,q123R5.eq_1,q123R6.eq_1,q123R7.eq_1,q123R8.eq_1,q123R9.eq_1,q123R10.eq_1,q123R11.eq_1,c_token_May.eq_1,h0,hne,List.isEmpty_cons,if_true])
  · have hb : (1 + q.length) * 8 ≤ 140737488355328 := by omega
    rw [if_neg h0]
    have e1 : 1 + q.length = (h :: q).length := by simp; omega
    (sym => simp [Qb,Qc,Qd,Qe,Qi,Qj,Qr,Qt,Qv,Qw,Qz,Q0,Q2,Q4,Xa,Xp,Xy,X0,X8,Yg,Yh,Yj,Yk,Yr,Yt,Yv,Y1,Y3,Y5,Y7,Y9,Za,Zb,Zc,Ze,Zg,Zh,Zi,Zj,Zk,Zl,Zm,Zn,Zr,Zs,Zt,Zu,Zv,Zw,Zx,Zy,Zz,Z0,Z3,Jj,Jk,Jl,Jn,Jp,Jq,Jr,Jv,Jx,Kv,Kx,Ua,Ub,Uc,Ud,Ue,Uf,Ug,Uh,Ul,Us,Ut,Ux,U4,U5,U6,U7,Vb,Vk,Vm,Vo,Vp,Vq,Vr,Vs,Vt,Vu,Vv,Vw,Vx,Vy,Vz,V0,Wk,Hh,Hi,Hk,Hl,Ho,Hp,Hq,Hs,Hu,Hv,Hw,H1,H2,H3,H4,H5,H6,Nl,Nm,No,Np,Nu,Nx,Nz,N2,Be,Bg,Bh,q123R0.eq_1,q123R1.eq_1,q123R2.eq_1,q123R3.eq_1,q123R4.eq_1,q123R5.eq_1,q123R6.eq_1,q123R7.eq_1,q123R8.eq_1,q123R9.eq_1,q123R10.eq_1,q123R11.eq_1,c_token_May.eq_1,h0,ints_len,hb]; tactic => (
      have key := may_loop G (h :: q) (by simp; omega) (q.length + 1) 0 [] (by simp)
      rw [lp_token_May_0] at key ⊢
      rw [loop_gc ?e1 ?e2, key]
      case e1 => rw [← seenC_nil, ints_cons]; (sym => simp [Qb,Qc,Qd,Qe,Qi,Qj,Qr,Qt,Qv,Qw,Qz,Q0,Q2,Q4,Xa,Xp,Xy,X0,X8,Yg,Yh,Yj,Yk,Yr,Yt,Yv,Y1,Y3,Y5,Y7,Y9,Za,Zb,Zc,Ze,Zg,Zh,Zi,Zj,Zk,Zl,Zm,Zn,Zr,Zs,Zt,Zu,Zv,Zw,Zx,Zy,Zz,Z0,Z3,Jj,Jk,Jl,Jn,Jp,Jq,Jr,Jv,Jx,Kv,Kx,Ua,Ub,Uc,Ud,Ue,Uf,Ug,Uh,Ul,Us,Ut,Ux,U4,U5,U6,U7,Vb,Vk,Vm,Vo,Vp,Vq,Vr,Vs,Vt,Vu,Vv,Vw,Vx,Vy,Vz,V0,Wk,Hh,Hi,Hk,Hl,Ho,Hp,Hq,Hs,Hu,Hv,Hw,H1,H2,H3,H4,H5,H6,Nl,Nm,No,Np,Nu,Nx,Nz,N2,Be,Bg,Bh,e1])
      case e2 => (sym => simp [Qb,Qc,Qd,Qe,Qi,Qj,Qr,Qt,Qv,Qw,Qz,Q0,Q2,Q4,Xa,Xp,Xy,X0,X8,Yg,Yh,Yj,Yk,Yr,Yt,Yv,Y1,Y3,Y5,Y7,Y9,Za,Zb,Zc,Ze,Zg,Zh,Zi,Zj,Zk,Zl,Zm,Zn,Zr,Zs,Zt,Zu,Zv,Zw,Zx,Zy,Zz,Z0,Z3,Jj,Jk,Jl,Jn,Jp,Jq,Jr,Jv,Jx,Kv,Kx,Ua,Ub,Uc,Ud,Ue,Uf,Ug,Uh,Ul,Us,Ut,Ux,U4,U5,U6,U7,Vb,Vk,Vm,Vo,Vp,Vq,Vr,Vs,Vt,Vu,Vv,Vw,Vx,Vy,Vz,V0,Wk,Hh,Hi,Hk,Hl,Ho,Hp,Hq,Hs,Hu,Hv,Hw,H1,H2,H3,H4,H5,H6,Nl,Nm,No,Np,Nu,Nx,Nz,N2,Be,Bg,Bh])
      rw [List.drop_zero]
      cases (mayRun [] (h :: q)).1 with
      | true => (sym => simp [Qb,Qc,Qd,Qe,Qi,Qj,Qr,Qt,Qv,Qw,Qz,Q0,Q2,Q4,Xa,Xp,Xy,X0,X8,Yg,Yh,Yj,Yk,Yr,Yt,Yv,Y1,Y3,Y5,Y7,Y9,Za,Zb,Zc,Ze,Zg,Zh,Zi,Zj,Zk,Zl,Zm,Zn,Zr,Zs,Zt,Zu,Zv,Zw,Zx,Zy,Zz,Z0,Z3,Jj,Jk,Jl,Jn,Jp,Jq,Jr,Jv,Jx,Kv,Kx,Ua,Ub,Uc,Ud,Ue,Uf,Ug,Uh,Ul,Us,Ut,Ux,U4,U5,U6,U7,Vb,Vk,Vm,Vo,Vp,Vq,Vr,Vs,Vt,Vu,Vv,Vw,Vx,Vy,Vz,V0,Wk,Hh,Hi,Hk,Hl,Ho,Hp,Hq,Hs,Hu,Hv,Hw,H1,H2,H3,H4,H5,H6,Nl,Nm,No,Np,Nu,Nx,Nz,N2,Be,Bg,Bh,q123R0.eq_1,q123R1.eq_1,q123R2.eq_1,q123R3.eq_1,q123R4.eq_1,q123R5.eq_1,q123R6.eq_1,q123R7.eq_1,q123R8.eq_1,q123R9.eq_1,q123R10.eq_1,q123R11.eq_1,c_token_May.eq_1,if_true])
      | false => (sym => simp [Qb,Qc,Qd,Qe,Qi,Qj,Qr,Qt,Qv,Qw,Qz,Q0,Q2,Q4,Xa,Xp,Xy,X0,X8,Yg,Yh,Yj,Yk,Yr,Yt,Yv,Y1,Y3,Y5,Y7,Y9,Za,Zb,Zc,Ze,Zg,Zh,Zi,Zj,Zk,Zl,Zm,Zn,Zr,Zs,Zt,Zu,Zv,Zw,Zx,Zy,Zz,Z0,Z3,Jj,Jk,Jl,Jn,Jp,Jq,Jr,Jv,Jx,Kv,Kx,Ua,Ub,Uc,Ud,Ue,Uf,Ug,Uh,Ul,Us,Ut,Ux,U4,U5,U6,U7,Vb,Vk,Vm,Vo,Vp,Vq,Vr,Vs,Vt,Vu,Vv,Vw,Vx,Vy,Vz,V0,Wk,Hh,Hi,Hk,Hl,Ho,Hp,Hq,Hs,Hu,Hv,Hw,H1,H2,H3,H4,H5,H6,Nl,Nm,No,Np,Nu,Nx,Nz,N2,Be,Bg,Bh,q123R0.eq_1,q123R1.eq_1,q123R2.eq_1,q123R3.eq_1,q123R4.eq_1,q123R5.eq_1,q123R6.eq_1,q123R7.eq_1,q123R8.eq_1,q123R9.eq_1,q123R10.eq_1,q123R11.eq_1,c_token_May.eq_1,if_true,if_false])))
end Go.Proofs.YthcnhibjddomdaaGreat
