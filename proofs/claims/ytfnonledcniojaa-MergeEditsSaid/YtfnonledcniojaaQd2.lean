/- The document's queues: First, Drop. Conditions: as each statement says. -/
import Derived.Test.YtfnonledcniojaaQd1
import Derived.Test.YtfnonledcniojaaMb3
set_option linter.unusedVariables false
set_option linter.unusedSimpArgs false
set_option linter.unusedSectionVars false
set_option maxRecDepth 20000
set_option maxHeartbeats 8000000
namespace Go.Proofs.Ytfnonledcniojaa
open Go
/-- How many first pieces fit. -/
theorem popN_iff : ∀ (q : List Pc) (n : Int) (k : Nat), k ≤ q.length → 0 < k → ((sizeQ (q.take k) : Int) ≤ n ↔ k ≤ popN q n)
  | [], n, k, h, h0 => by simp at h; omega
  | x :: q, n, 0, h, h0 => absurd h0 (Nat.lt_irrefl 0)
  | x :: q, n, k + 1, h, h0 => by
    have e : sizeQ ((x :: q).take (k + 1)) = x.2.2.1.length + sizeQ (q.take k) := by simp [sizeQ]
    rw [e, popN]
    by_cases hx : (x.2.2.1.length : Int) ≤ n
    · rw [if_pos hx]
      by_cases hk : k = 0
      · subst hk
        have : sizeQ (q.take 0) = 0 := rfl
        omega
      · have ih := popN_iff q (n - x.2.2.1.length) k (by simpa using h) (by omega)
        omega
    · rw [if_neg hx]
      omega
variable (G : Nat → Option (List AV))
theorem rfirst_loop (q : List Pc) (b f : Bool) (n : Int) (hS : ∀ k, k ≤ q.length → ∀ b f, aP G FT n_ref28_Size [.data b 3 (pcs (q.take k)) f] = some (.int .i64 (sizeQ (q.take k) : Nat))) (hl : q.length ≤ 1000) : ∀ k, k ≤ q.length → popN q n ≤ k →
    (popN q n = 0 ∧ aE G FT 0 lp_ref28_First_0 ⟨[(0, .data b 3 (pcs q) f), (1, .int .i64 n), (5, .int .i64 k)], []⟩ = some (.exit 0, ⟨[(0, .data b 3 (pcs q) f), (1, .int .i64 n), (5, .int .i64 0), (9, .bool false)], []⟩)) ∨
    aE G FT 0 lp_ref28_First_0 ⟨[(0, .data b 3 (pcs q) f), (1, .int .i64 n), (5, .int .i64 k)], []⟩ = some (.ret, ⟨[(4, .int .i64 (popN q n : Nat))], []⟩) := by
  intro k
  induction k with
  | zero =>
    intro _ hp
    have h0 : popN q n = 0 := by omega
    refine .inl ⟨h0, ?_⟩
    rw [lp_ref28_First_0, y_loop]
    (sym => simp [Qa,Qb,Qc,Qd,Qe,Qi,Qj,Qm,Qn,Qo,Qr,Qt,Xa,Xl,Xm,Xn,X6,Yb,Yc,Y9,Za,Zb,Zc,Ze,Zg,Zh,Zk,Zl,Zo,Zt,Zv,Zw,Z3,Jj,Jk,Jl,Jm,Jn,Jo,Jp,Jr,Js,Jt,Ju,Jv,K0,K1,K3,Ux,U0,U4,U5,Vb,Ve,Vo,Vq,Vr,Vt,Vv,Vw,Vy,Vz,V0,V9,Wd,We,Hq,Hs,Hw,H1,Nf,Ni,Nk,Nl,Nm,No,Nz,Be,Bh,q46R0.eq_1,q46R1.eq_1,q46R2.eq_1,q46R4.eq_1,q46R5.eq_1,q46R3.eq_1,q46R6.eq_1,c_ref28_First.eq_1,c_ref28_First_L0.eq_1])
  | succ k ih =>
    intro hk hp
    have hln := pcs_len q
    have h1 : (0 : Int) < ((k + 1 : Nat) : Int) := by omega
    have d1 : List.take (k + 1) (pcs q) = pcs (q.take (k + 1)) := by simp [pcs, List.map_take]
    have hle : ((k + 1 : Nat) : Int) ≤ q.length := by omega
    have hle2 : k + 1 ≤ q.length := hk
    have hs := hS (k + 1) hk
    have iff := popN_iff q n (k + 1) hk (by omega)
    have c2 : (0 : Int) ≤ ((k + 1 : Nat) : Int) := by omega
    have tn : ((k + 1 : Nat) : Int).toNat = k + 1 := by omega
    by_cases hx : (sizeQ (q.take (k + 1)) : Int) ≤ n
    · have e : popN q n = k + 1 := by have := iff.1 hx; omega
      rw [e]
      refine .inr ?_
      rw [lp_ref28_First_0, y_loop]
      (sym => simp [Qa,Qb,Qc,Qd,Qe,Qi,Qj,Qm,Qn,Qo,Qr,Qt,Xa,Xl,Xm,Xn,X6,Yb,Yc,Y9,Za,Zb,Zc,Ze,Zg,Zh,Zk,Zl,Zo,Zt,Zv,Zw,Z3,Jj,Jk,Jl,Jm,Jn,Jo,Jp,Jr,Js,Jt,Ju,Jv,K0,K1,K3,Ux,U0,U4,U5,Vb,Ve,Vo,Vq,Vr,Vt,Vv,Vw,Vy,Vz,V0,V9,Wd,We,Hq,Hs,Hw,H1,Nf,Ni,Nk,Nl,Nm,No,Nz,Be,Bh,q46R0.eq_1,q46R1.eq_1,q46R2.eq_1,q46R4.eq_1,q46R5.eq_1,q46R3.eq_1,q46R6.eq_1,c_ref28_First.eq_1,c_ref28_First_L0.eq_1,h1,d1,hln,hle,hle2,hs,hx,c2,tn])
    · have ih := ih (by omega) (by have := mt iff.2 hx; omega)
      have hw : IntKind.i64.wrap (((k + 1 : Nat) : Int) - 1) = (k : Nat) := by rw [wrap_in _ (by omega) (by omega)]; omega
      rw [lp_ref28_First_0] at ih
      rcases ih with ⟨h0, ih⟩ | ih
      · refine .inl ⟨h0, ?_⟩
        rw [← ih, lp_ref28_First_0, y_loop]
        (sym => simp [Qa,Qb,Qc,Qd,Qe,Qi,Qj,Qm,Qn,Qo,Qr,Qt,Xa,Xl,Xm,Xn,X6,Yb,Yc,Y9,Za,Zb,Zc,Ze,Zg,Zh,Zk,Zl,Zo,Zt,Zv,Zw,Z3,Jj,Jk,Jl,Jm,Jn,Jo,Jp,Jr,Js,Jt,Ju,Jv,K0,K1,K3,Ux,U0,U4,U5,Vb,Ve,Vo,Vq,Vr,Vt,Vv,Vw,Vy,Vz,V0,V9,Wd,We,Hq,Hs,Hw,H1,Nf,Ni,Nk,Nl,Nm,No,Nz,Be,Bh,q46R0.eq_1,q46R1.eq_1,q46R2.eq_1,q46R4.eq_1,q46R5.eq_1,q46R3.eq_1,q46R6.eq_1,c_ref28_First.eq_1,c_ref28_First_L0.eq_1,h1,d1,hln,hle,hle2,hs,hx,c2,tn,hw])
      · refine .inr ?_
        rw [← ih, lp_ref28_First_0, y_loop]
        (sym => simp [Qa,Qb,Qc,Qd,Qe,Qi,Qj,Qm,Qn,Qo,Qr,Qt,Xa,Xl,Xm,Xn,X6,Yb,Yc,Y9,Za,Zb,Zc,Ze,Zg,Zh,Zk,Zl,Zo,Zt,Zv,Zw,Z3,Jj,Jk,Jl,Jm,Jn,Jo,Jp,Jr,Js,Jt,Ju,Jv,K0,K1,K3,Ux,U0,U4,U5,Vb,Ve,Vo,Vq,Vr,Vt,Vv,Vw,Vy,Vz,V0,V9,Wd,We,Hq,Hs,Hw,H1,Nf,Ni,Nk,Nl,Nm,No,Nz,Be,Bh,q46R0.eq_1,q46R1.eq_1,q46R2.eq_1,q46R4.eq_1,q46R5.eq_1,q46R3.eq_1,q46R6.eq_1,c_ref28_First.eq_1,c_ref28_First_L0.eq_1,h1,d1,hln,hle,hle2,hs,hx,c2,tn,hw])
theorem rfirst_P (q : List Pc) (b f : Bool) (n : Int) (hS : ∀ k, k ≤ q.length → ∀ b f, aP G FT n_ref28_Size [.data b 3 (pcs (q.take k)) f] = some (.int .i64 (sizeQ (q.take k) : Nat))) (hl : q.length ≤ 1000) : aP G FT n_ref28_First [.data b 3 (pcs q) f, .int .i64 n] = some (.int .i64 (popN q n : Nat)) := by
  have hln := pcs_len q
  have k2 := rfirst_loop G q b f n hS hl q.length (Nat.le_refl _) (popN_le q n)
  unfold aP
  rw [run_ref28_First]
  rcases k2 with ⟨h0, k1⟩ | k1
  · rw [h0]
    (sym => simp [Qb,Qd,Qe,Qi,Qj,Qr,Xy,Yh,Y1,Y5,Y7,Y9,Za,Zb,Zc,Ze,Zg,Zh,Zi,Zj,Zk,Zl,Zm,Zr,Zs,Zt,Zu,Zv,Zw,Jj,Jk,Jl,Jn,Jp,Jq,Jv,Jx,Wj,Be,Bh,q46R0.eq_1,q46R1.eq_1,q46R2.eq_1,q46R4.eq_1,q46R5.eq_1,q46R3.eq_1,q46R6.eq_1,c_ref28_First.eq_1,hln,k1])
  · (sym => simp [Qb,Qd,Qe,Qi,Qj,Qr,Xy,Yh,Y1,Y5,Y7,Y9,Za,Zb,Zc,Ze,Zg,Zh,Zi,Zj,Zk,Zl,Zm,Zr,Zs,Zt,Zu,Zv,Zw,Jj,Jk,Jl,Jn,Jp,Jq,Jv,Jx,Wj,Be,Bh,q46R0.eq_1,q46R1.eq_1,q46R2.eq_1,q46R4.eq_1,q46R5.eq_1,q46R3.eq_1,q46R6.eq_1,c_ref28_First.eq_1,hln,k1])
def dropQ (q : List Pc) (m : Int) : List Pc := q.filter fun x => !decide (x.1 = m)
theorem dropQ_app (a b : List Pc) (m : Int) : dropQ (a ++ b) m = dropQ a m ++ dropQ b m := by unfold dropQ; rw [List.filter_append]
theorem rdrop_loop (q : List Pc) (f : Bool) (h : okL q) (k : Int) : ∀ (m i : Nat), i + m = q.length → ∀ (l : Nat) st, l = (dropQ (q.take i) k).length → agc 0 [0, 1, 5, 6] st = some ⟨[(0, .data false 3 (pcs q) f), (1, .int .i64 k), (5, .own 0 0 0 l l), (6, .int .i64 i)], [⟨3, 0, true, pcs (dropQ (q.take i) k)⟩]⟩ →
    aE G FT 0 lp_ref28_Drop_0 st = some (.exit 0, ⟨[(0, .data false 3 (pcs q) f), (1, .int .i64 k), (5, .own 0 0 0 (dropQ q k).length (dropQ q k).length), (6, .int .i64 q.length), (10, .bool false)], [⟨3, 0, true, pcs (dropQ q k)⟩]⟩) := by
  have hln := pcs_len q
  intro m
  induction m with
  | zero =>
    intro i hi l st hl hst
    rw [lp_ref28_Drop_0, y_loop, hst]
    obtain rfl : i = q.length := by omega
    rw [List.take_length] at hl ⊢
    subst hl
    have e0 : decide ((q.length : Int) < q.length) = false := by simp
    (sym => simp [Qa,Qc,Qd,Qe,Qi,Qj,Qr,Qt,Qz,Q0,Q2,Q4,Xa,Xp,Xs,Xy,X0,X5,X9,Ya,Yh,Yj,Ys,Yt,Yu,Yw,Yy,Y2,Y9,Za,Zb,Zc,Ze,Zg,Zh,Zk,Zl,Zm,Zn,Zt,Zv,Zw,Zx,Zy,Zz,Z0,Z3,Jj,Jk,Jm,Jn,Jo,Jr,Js,Ju,Jv,Kv,Kx,Ua,Ub,Uc,Ud,Ue,Uf,Ug,Ul,Us,Ux,U0,U4,U5,U6,Vb,Ve,Vk,Vm,Vo,Vp,Vq,Vr,Vs,Vt,Vu,Vv,Vw,Vx,Vy,Vz,V0,Hh,Hi,Hk,Ho,Hp,Hq,Hs,Hu,Hv,Hw,H1,H2,H3,H5,H6,H8,Ng,Nh,Ni,Nk,Nl,Nm,No,Nw,Nx,Nz,N2,Be,Bg,Ma,Mb,Md,Me,Mf,q45R0.eq_1,q45R1.eq_1,q45R2.eq_1,q45R3.eq_1,q45R5.eq_1,q45R6.eq_1,q45R4.eq_1,q45R7.eq_1,c_ref28_Drop.eq_1,c_ref28_Drop_L0.eq_1,e0,hln])
  | succ m ih =>
    intro i hi l st hl hst
    have hlt : i < q.length := by omega
    have hlt' : (i : Int) < q.length := by omega
    have hw := wrap_nat (n := i) (by have := h.1; omega)
    have hg := pcs_at hlt
    have ih := ih (i + 1) (by omega)
    have e1 : q.take (i + 1) = q.take i ++ [q[i]] := by rw [List.take_add_one, List.getElem?_eq_getElem hlt]; rfl
    rw [e1, dropQ_app] at ih
    have hls : l ≤ 1000 := by
      have h1 := List.length_filter_le (fun x : Pc => !decide (x.1 = k)) (q.take i)
      have h2 := h.1
      rw [List.length_take] at h1
      unfold dropQ at hl
      omega
    have hlo : (pcs (dropQ (q.take i) k)).length = l := by rw [pcs_len, hl]
    rw [lp_ref28_Drop_0] at ih
    rw [lp_ref28_Drop_0, y_loop, hst]
    by_cases hx : q[i].1 = k
    · have e2 : dropQ [q[i]] k = [] := by simp [dropQ, hx]
      rw [e2, List.append_nil] at ih
      generalize pcs (dropQ (q.take i) k) = P at ih hlo ⊢
      generalize pcs (dropQ q k) = PQ at ih ⊢
      generalize dropQ q k = DQ at *
      generalize q[i] = z at *
      (sym => simp [Qa,Qc,Qd,Qe,Qi,Qj,Qr,Qt,Qz,Q0,Q2,Q4,Xa,Xp,Xs,Xy,X0,X5,X9,Ya,Yh,Yj,Ys,Yt,Yu,Yw,Yy,Y2,Y9,Za,Zb,Zc,Ze,Zg,Zh,Zk,Zl,Zm,Zn,Zt,Zv,Zw,Zx,Zy,Zz,Z0,Z3,Jj,Jk,Jm,Jn,Jo,Jr,Js,Ju,Jv,Kv,Kx,Ua,Ub,Uc,Ud,Ue,Uf,Ug,Ul,Us,Ux,U0,U4,U5,U6,Vb,Ve,Vk,Vm,Vo,Vp,Vq,Vr,Vs,Vt,Vu,Vv,Vw,Vx,Vy,Vz,V0,Hh,Hi,Hk,Ho,Hp,Hq,Hs,Hu,Hv,Hw,H1,H2,H3,H5,H6,H8,Ng,Nh,Ni,Nk,Nl,Nm,No,Nw,Nx,Nz,N2,Be,Bg,Ma,Mb,Md,Me,Mf,q45R0.eq_1,q45R1.eq_1,q45R2.eq_1,q45R3.eq_1,q45R5.eq_1,q45R6.eq_1,q45R4.eq_1,q45R7.eq_1,c_ref28_Drop.eq_1,c_ref28_Drop_L0.eq_1,hlt',hg,hlo,hx,hw,hln]; tactic => (
        refine ih l _ hl ?_
        (sym => simp [Qa,Qc,Qd,Qe,Qi,Qj,Qr,Qt,Qz,Q0,Q2,Q4,Xa,Xp,Xs,Xy,X0,X5,X9,Ya,Yh,Yj,Ys,Yt,Yu,Yw,Yy,Y2,Y9,Za,Zb,Zc,Ze,Zg,Zh,Zk,Zl,Zm,Zn,Zt,Zv,Zw,Zx,Zy,Zz,Z0,Z3,Jj,Jk,Jm,Jn,Jo,Jr,Js,Ju,Jv,Kv,Kx,Ua,Ub,Uc,Ud,Ue,Uf,Ug,Ul,Us,Ux,U0,U4,U5,U6,Vb,Ve,Vk,Vm,Vo,Vp,Vq,Vr,Vs,Vt,Vu,Vv,Vw,Vx,Vy,Vz,V0,Hh,Hi,Hk,Ho,Hp,Hq,Hs,Hu,Hv,Hw,H1,H2,H3,H5,H6,H8,Ng,Nh,Ni,Nk,Nl,Nm,No,Nw,Nx,Nz,N2,Be,Bg,Ma,Mb,Md,Me,Mf,hlo])))
    · have e2 : dropQ [q[i]] k = [q[i]] := by simp [dropQ, hx]
      rw [e2, pcs_append] at ih
      have e3 : pcs [q[i]] = [[.int .i64 q[i].1, .int .i64 q[i].2.1, .data false 1 (byt q[i].2.2.1) q[i].2.2.2]] := rfl
      rw [e3] at ih
      have b1 : (l + 1) * 40 ≤ 140737488355328 := by omega
      have n1 : l + 1 ≤ l ↔ False := by simp
      have tk : List.take l (pcs (dropQ (q.take i) k)) = pcs (dropQ (q.take i) k) := List.take_of_length_le (by omega)
      have hl2 : l + 1 = (dropQ (q.take i) k ++ [q[i]]).length := by simp [hl]
      generalize pcs (dropQ (q.take i) k) = P at ih hlo tk ⊢
      generalize pcs (dropQ q k) = PQ at ih ⊢
      generalize dropQ q k = DQ at *
      generalize dropQ (q.take i) k = DI at *
      generalize q[i] = z at *
      (sym => simp [Qa,Qc,Qd,Qe,Qi,Qj,Qr,Qt,Qz,Q0,Q2,Q4,Xa,Xp,Xs,Xy,X0,X5,X9,Ya,Yh,Yj,Ys,Yt,Yu,Yw,Yy,Y2,Y9,Za,Zb,Zc,Ze,Zg,Zh,Zk,Zl,Zm,Zn,Zt,Zv,Zw,Zx,Zy,Zz,Z0,Z3,Jj,Jk,Jm,Jn,Jo,Jr,Js,Ju,Jv,Kv,Kx,Ua,Ub,Uc,Ud,Ue,Uf,Ug,Ul,Us,Ux,U0,U4,U5,U6,Vb,Ve,Vk,Vm,Vo,Vp,Vq,Vr,Vs,Vt,Vu,Vv,Vw,Vx,Vy,Vz,V0,Hh,Hi,Hk,Ho,Hp,Hq,Hs,Hu,Hv,Hw,H1,H2,H3,H5,H6,H8,Ng,Nh,Ni,Nk,Nl,Nm,No,Nw,Nx,Nz,N2,Be,Bg,Ma,Mb,Md,Me,Mf,q45R0.eq_1,q45R1.eq_1,q45R2.eq_1,q45R3.eq_1,q45R5.eq_1,q45R6.eq_1,q45R4.eq_1,q45R7.eq_1,c_ref28_Drop.eq_1,c_ref28_Drop_L0.eq_1,hlt',hg,hlo,hx,hw,hln,b1,n1,tk]; tactic => (
        refine ih (l + 1) _ hl2 ?_
        (sym => simp [Qa,Qc,Qd,Qe,Qi,Qj,Qr,Qt,Qz,Q0,Q2,Q4,Xa,Xp,Xs,Xy,X0,X5,X9,Ya,Yh,Yj,Ys,Yt,Yu,Yw,Yy,Y2,Y9,Za,Zb,Zc,Ze,Zg,Zh,Zk,Zl,Zm,Zn,Zt,Zv,Zw,Zx,Zy,Zz,Z0,Z3,Jj,Jk,Jm,Jn,Jo,Jr,Js,Ju,Jv,Kv,Kx,Ua,Ub,Uc,Ud,Ue,Uf,Ug,Ul,Us,Ux,U0,U4,U5,U6,Vb,Ve,Vk,Vm,Vo,Vp,Vq,Vr,Vs,Vt,Vu,Vv,Vw,Vx,Vy,Vz,V0,Hh,Hi,Hk,Ho,Hp,Hq,Hs,Hu,Hv,Hw,H1,H2,H3,H5,H6,H8,Ng,Nh,Ni,Nk,Nl,Nm,No,Nw,Nx,Nz,N2,Be,Bg,Ma,Mb,Md,Me,Mf,hlo,tk])))
theorem rdrop_P (q : List Pc) (f : Bool) (h : okL q) (k : Int) : aP G FT n_ref28_Drop [.data false 3 (pcs q) f, .int .i64 k] = some (.data false 3 (pcs (dropQ q k)) false) := by
  have key := rdrop_loop G q f h k q.length 0 (by omega) 0 ⟨[(0, .data false 3 (pcs q) f), (1, .int .i64 k), (5, .own 0 0 0 0 0), (6, .int .i64 0)], [⟨3, 0, true, []⟩]⟩ rfl (by
    simp only [Int.natCast_zero, List.take_zero, show pcs (dropQ [] k) = [] from rfl]
    (sym => simp [Qb,Qd,Qe,Qi,Qj,Qr,Qs,Y1,Y5,Y7,Y9,Za,Zb,Zc,Ze,Zg,Zh,Zi,Zj,Zk,Zl,Zm,Zn,Zr,Zs,Zt,Zu,Zv,Zw,Zx,Zy,Zz,Z0,Z3,Jj,Jk,Jn,Jq,Jv,Jx,Us,Ux,U0,U4,U5,U6,Vb,Ve,Vk,Vm,Vo,Vp,Vq,Vr,Vs,Vt,Vu,Vv,Vw,Vx,Vy,Vz,V0,Wf,Hh,Hp,Hs,Hv,Hw,H1,H5,H6,H8,Ng,Nl,No,Nx,Nz,Be]))
  have hlo : (pcs (dropQ q k)).length = (dropQ q k).length := pcs_len _
  have tk : List.take (dropQ q k).length (pcs (dropQ q k)) = pcs (dropQ q k) := List.take_of_length_le (by omega)
  unfold aP
  rw [run_ref28_Drop]
  (sym => simp [Qb,Qd,Qe,Qi,Qj,Qr,Qs,Y1,Y5,Y7,Y9,Za,Zb,Zc,Ze,Zg,Zh,Zi,Zj,Zk,Zl,Zm,Zn,Zr,Zs,Zt,Zu,Zv,Zw,Zx,Zy,Zz,Z0,Z3,Jj,Jk,Jn,Jq,Jv,Jx,Us,Ux,U0,U4,U5,U6,Vb,Ve,Vk,Vm,Vo,Vp,Vq,Vr,Vs,Vt,Vu,Vv,Vw,Vx,Vy,Vz,V0,Wf,Hh,Hp,Hs,Hv,Hw,H1,H5,H6,H8,Ng,Nl,No,Nx,Nz,Be,q45R0.eq_1,q45R1.eq_1,q45R2.eq_1,q45R3.eq_1,q45R5.eq_1,q45R6.eq_1,q45R4.eq_1,q45R7.eq_1,c_ref28_Drop.eq_1,key,hlo,tk])
end Go.Proofs.Ytfnonledcniojaa
