/- The document's parser: a control sequence, its points. Conditions: none. -/
import Derived.Test.YtkkcblfoaldckaaVtC
set_option linter.unusedVariables false
set_option linter.unusedSimpArgs false
set_option linter.unusedSectionVars false
set_option maxRecDepth 20000
set_option maxHeartbeats 2000000
namespace Go.Proofs.Ytkkcblfoaldckaa
open Go
variable (G : Nat → Option (List AV))
structure CS where
  mark : Int
  inter : ByteArray
  asked : Bool
  all : List Int
  n : Int
def byteS (c : Int) : ByteArray := ⟨#[UInt8.ofNat (IntKind.u8.wrap c).toNat]⟩
def csiStep (i : Nat) (c : Int) : CS → Option CS
  | ⟨mark, inter, asked, all, n⟩ =>
  if c < 48 then some ⟨mark, inter ++ byteS c, asked, all, n⟩
  else if i = 0 ∧ 60 ≤ c then some ⟨c, inter, asked, all, n⟩
  else if c = 58 ∨ 60 ≤ c ∨ inter.size ≠ 0 then none
  else if c = 59 then some ⟨mark, inter, true, all ++ [n], 0⟩
  else some ⟨mark, inter, true, all, if 9999 < 10 * n + c - 48 then 9999 else 10 * n + c - 48⟩
def csiGo : Nat → List Int → CS → Option CS
  | _, [], s => some s
  | i, c :: l, s => (csiStep i c s).bind (csiGo (i + 1) l)
variable (z : Int)
theorem size0' {s : ByteArray} (z : s.size = 0) : s = ⟨#[]⟩ := size0 z
theorem csi_gc0 (l : List Int) (bl fl : Bool) (mark : Int) (inter : ByteArray) (asked : Bool) (all : List Int) (n i : Int) (g : Nat) (R : List ARow) :
    agc 0 [0, 3, 4, 5, 6, 7] ⟨[(0, .data bl 1 (rn l) fl), (3, .ptr 0 0 0 0), (4, .bool asked), (5, .own 1 g 0 all.length all.length), (6, .int .i64 n), (7, .int .i64 i)], ⟨6, 0, true, [[.int .i64 4, .int .i32 z, .int .i32 mark, .str inter, .data false 1 [] true, .data false 1 [] true]]⟩ :: ⟨1, g, true, ints all⟩ :: R⟩ =
      some ⟨[(0, .data bl 1 (rn l) fl), (3, .ptr 0 0 0 0), (4, .bool asked), (5, .own 1 0 0 all.length all.length), (6, .int .i64 n), (7, .int .i64 i)], [⟨6, 0, true, [[.int .i64 4, .int .i32 z, .int .i32 mark, .str inter, .data false 1 [] true, .data false 1 [] true]]⟩, ⟨1, 0, true, ints all⟩]⟩ := by
  have l0 : 0 < R.length + 1 + 1 := by omega
  have l1 : 1 < R.length + 1 + 1 := by omega
  (sym => simp [Y9,Za,Zb,Ze,Zh,Zk,Zl,Zn,Zv,Zw,Zx,Zy,Zz,Z0,Z3,Us,Ut,Ux,Uy,U0,U4,U5,U6,U7,Vb,Vc,Ve,Vk,Vm,Vo,Vp,Vq,Vr,Vs,Vt,Vu,Vv,Vw,Vx,Vy,Vz,V0,Hh,Hi,Hp,Hu,Hv,Hw,H1,H4,H5,H6,Nl,No,Nu,Nx,l0,l1])
theorem csi_loop0 (l : List Int) (bl fl : Bool) (hl : l.length ≤ 100000) (hr : ∀ x ∈ l, x < 1000) : ∀ m i, i + m + 1 = l.length → ∀ (mark : Int) (inter : ByteArray) (asked : Bool) (all : List Int) (n : Int) (g : Nat) (R : List ARow), inter.size ≤ i → all.length ≤ i → 0 ≤ n → n ≤ 9999 →
    (csiGo i ((l.take (l.length - 1)).drop i) ⟨mark, inter, asked, all, n⟩ = none → ∃ h, aE G FT 0 lp_ref11_csi_0 ⟨[(0, .data bl 1 (rn l) fl), (3, .ptr 0 0 0 0), (4, .bool asked), (5, .own 1 g 0 all.length all.length), (6, .int .i64 n), (7, .int .i64 i)], ⟨6, 0, true, [[.int .i64 4, .int .i32 z, .int .i32 mark, .str inter, .data false 1 [] true, .data false 1 [] true]]⟩ :: ⟨1, g, true, ints all⟩ :: R⟩ = some (.ret, ⟨[(2, .data false 6 [] true)], h⟩)) ∧
    (∀ mark' inter' asked' all' n', csiGo i ((l.take (l.length - 1)).drop i) ⟨mark, inter, asked, all, n⟩ = some ⟨mark', inter', asked', all', n'⟩ → aE G FT 0 lp_ref11_csi_0 ⟨[(0, .data bl 1 (rn l) fl), (3, .ptr 0 0 0 0), (4, .bool asked), (5, .own 1 g 0 all.length all.length), (6, .int .i64 n), (7, .int .i64 i)], ⟨6, 0, true, [[.int .i64 4, .int .i32 z, .int .i32 mark, .str inter, .data false 1 [] true, .data false 1 [] true]]⟩ :: ⟨1, g, true, ints all⟩ :: R⟩ =
      some (.exit 0, ⟨[(0, .data bl 1 (rn l) fl), (3, .ptr 0 0 0 0), (4, .bool asked'), (5, .own 1 0 0 all'.length all'.length), (6, .int .i64 n'), (7, .int .i64 (l.length - 1 : Nat)), (21, .bool false)], [⟨6, 0, true, [[.int .i64 4, .int .i32 z, .int .i32 mark', .str inter', .data false 1 [] true, .data false 1 [] true]]⟩, ⟨1, 0, true, ints all'⟩]⟩)) := by
  intro m
  have rl := rn_len l
  have wl : IntKind.i64.wrap ((l.length : Int) - 1) = (l.length : Int) - 1 := wrap_in _ (by omega) (by omega)
  induction m with
  | zero =>
    intro i hi mark inter asked all n g R h1 h2 h3 h4
    have e : (l.take (l.length - 1)).drop i = [] := by
      rw [List.drop_eq_nil_iff]; simp; omega
    rw [e]
    refine ⟨fun h => (by cases h), fun mark' inter' asked' all' n' h => ?_⟩
    cases h
    have q : ¬ (i : Int) < (l.length : Int) - 1 := by omega
    have hi' : ((l.length - 1 : Nat) : Int) = i := by omega
    rw [lp_ref11_csi_0, y_loop, csi_gc0, hi']
    (sym => simp [Qa,Qb,Qc,Qd,Qe,Qf,Qg,Qi,Qj,Qr,Qt,Qu,Qz,Q0,Q2,Q4,Q5,Xa,Xb,Xe,Xg,Xi,Xp,Xs,Xy,X0,X5,X6,X7,X8,Ya,Yc,Yd,Yh,Yk,Yr,Ys,Yt,Yv,Yy,Y2,Y9,Za,Zb,Zc,Zd,Ze,Zg,Zh,Zm,Zn,Zt,Zv,Zw,Zx,Zy,Zz,Z0,Z1,Z3,Ja,Jb,Jg,Jj,Jk,Jl,Jm,Jn,Jo,Jp,Jr,Js,Jt,Ju,Jv,J3,J5,Kc,Kj,Kn,Kv,Kx,Ua,Ub,Uc,Ud,Ue,Uf,Ug,He,Hh,Hi,Hk,Hl,Ho,Hq,Hs,Hu,Hv,Hx,H2,H3,H8,Ne,Ng,Nh,Ni,Nk,Nl,Nm,No,Nw,Nx,Nz,N2,Be,Bg,Bj,Bo,Bw,BB,q15R0.eq_1,q15R1.eq_1,q15R2.eq_1,q15R3.eq_1,q15R4.eq_1,q15R5.eq_1,q15R6.eq_1,q15R8.eq_1,q15R13.eq_1,q15R14.eq_1,q15R15.eq_1,q15R16.eq_1,q15R17.eq_1,q15R18.eq_1,q15R19.eq_1,q15R20.eq_1,q15R21.eq_1,q15R22.eq_1,q15R9.eq_1,q15R10.eq_1,q15R11.eq_1,q15R12.eq_1,q15R7.eq_1,q15R23.eq_1,q15R24.eq_1,q15R25.eq_1,q15R26.eq_1,q15R27.eq_1,q15R28.eq_1,q15R30.eq_1,q15R29.eq_1,q15R31.eq_1,c_ref11_csi.eq_1,c_ref11_csi_L0.eq_1,rl,wl,q])
  | succ m ih =>
    intro i hi mark inter asked all n g R h1 h2 h3 h4
    have hn : i < l.length := by omega
    have hc := hr l[i] (by simp)
    have e : (l.take (l.length - 1)).drop i = l[i] :: (l.take (l.length - 1)).drop (i + 1) := by
      rw [List.drop_eq_getElem_cons (by simp; omega)]; simp
    have q : (i : Int) < (l.length : Int) - 1 := by omega
    have a1 := rn_at hn
    have hw := wrap_nat (n := i) (by omega)
    rw [e, csiGo]
    have step : ∀ (mark' : Int) (inter' : ByteArray) (asked' : Bool) (all' : List Int) (n' : Int) (g' : Nat) (R' : List ARow), inter'.size ≤ i + 1 → all'.length ≤ i + 1 → 0 ≤ n' → n' ≤ 9999 → csiStep i l[i] ⟨mark, inter, asked, all, n⟩ = some ⟨mark', inter', asked', all', n'⟩ →
        (aE G FT 0 lp_ref11_csi_0 ⟨[(0, .data bl 1 (rn l) fl), (3, .ptr 0 0 0 0), (4, .bool asked), (5, .own 1 g 0 all.length all.length), (6, .int .i64 n), (7, .int .i64 i)], ⟨6, 0, true, [[.int .i64 4, .int .i32 z, .int .i32 mark, .str inter, .data false 1 [] true, .data false 1 [] true]]⟩ :: ⟨1, g, true, ints all⟩ :: R⟩ =
         aE G FT 0 lp_ref11_csi_0 ⟨[(0, .data bl 1 (rn l) fl), (3, .ptr 0 0 0 0), (4, .bool asked'), (5, .own 1 g' 0 all'.length all'.length), (6, .int .i64 n'), (7, .int .i64 ((i + 1 : Nat) : Int))], ⟨6, 0, true, [[.int .i64 4, .int .i32 z, .int .i32 mark', .str inter', .data false 1 [] true, .data false 1 [] true]]⟩ :: ⟨1, g', true, ints all'⟩ :: R'⟩) →
        ((csiStep i l[i] ⟨mark, inter, asked, all, n⟩).bind (csiGo (i + 1) ((l.take (l.length - 1)).drop (i + 1))) = none → ∃ h, aE G FT 0 lp_ref11_csi_0 ⟨[(0, .data bl 1 (rn l) fl), (3, .ptr 0 0 0 0), (4, .bool asked), (5, .own 1 g 0 all.length all.length), (6, .int .i64 n), (7, .int .i64 i)], ⟨6, 0, true, [[.int .i64 4, .int .i32 z, .int .i32 mark, .str inter, .data false 1 [] true, .data false 1 [] true]]⟩ :: ⟨1, g, true, ints all⟩ :: R⟩ = some (.ret, ⟨[(2, .data false 6 [] true)], h⟩)) ∧
        (∀ mark' inter' asked' all' n', (csiStep i l[i] ⟨mark, inter, asked, all, n⟩).bind (csiGo (i + 1) ((l.take (l.length - 1)).drop (i + 1))) = some ⟨mark', inter', asked', all', n'⟩ → aE G FT 0 lp_ref11_csi_0 ⟨[(0, .data bl 1 (rn l) fl), (3, .ptr 0 0 0 0), (4, .bool asked), (5, .own 1 g 0 all.length all.length), (6, .int .i64 n), (7, .int .i64 i)], ⟨6, 0, true, [[.int .i64 4, .int .i32 z, .int .i32 mark, .str inter, .data false 1 [] true, .data false 1 [] true]]⟩ :: ⟨1, g, true, ints all⟩ :: R⟩ =
          some (.exit 0, ⟨[(0, .data bl 1 (rn l) fl), (3, .ptr 0 0 0 0), (4, .bool asked'), (5, .own 1 0 0 all'.length all'.length), (6, .int .i64 n'), (7, .int .i64 (l.length - 1 : Nat)), (21, .bool false)], [⟨6, 0, true, [[.int .i64 4, .int .i32 z, .int .i32 mark', .str inter', .data false 1 [] true, .data false 1 [] true]]⟩, ⟨1, 0, true, ints all'⟩]⟩)) := by
      intro mark' inter' asked' all' n' g' R' k1 k2 k3 k4 hs hrun
      rw [hs, hrun]
      exact ih (i + 1) (by omega) mark' inter' asked' all' n' g' R' k1 k2 k3 k4
    by_cases c1 : l[i] < 48
    · have w8 : (IntKind.u8.wrap l[i]).toNat = (IntKind.u8.wrap l[i]).toNat := rfl
      have h5 : ¬ IntKind.i64.max < ((inter.size + 1 : Nat) : Int) := by have : IntKind.i64.max = 9223372036854775807 := rfl; omega
      have b1 : (byteS l[i]).size = 1 := rfl
      refine step mark (inter ++ byteS l[i]) asked all n 0 [⟨1, 0, true, [[.int .u8 (IntKind.u8.wrap l[i])]]⟩] (by rw [ByteArray.size_append, b1]; omega) (by omega) h3 h4 (by rw [csiStep, if_pos c1]) ?_
      have eb : byteS l[i] = ⟨#[UInt8.ofNat (IntKind.u8.wrap l[i]).toNat]⟩ := rfl
      have es : (⟨#[UInt8.ofNat (IntKind.u8.wrap l[i]).toNat]⟩ : ByteArray).size = 1 := rfl
      rw [eb]
      have hb : ∀ x : Int, asBytes [[.int .u8 x]] = some [UInt8.ofNat x.toNat] := fun x => rfl
      have hu : asum .u8 l[i] = .int .u8 (IntKind.u8.wrap l[i]) := rfl
      rw [lp_ref11_csi_0, y_loop, csi_gc0]
      (sym => simp [Qa,Qb,Qc,Qd,Qe,Qf,Qg,Qi,Qj,Qr,Qt,Qu,Qz,Q0,Q2,Q4,Q5,Xa,Xb,Xe,Xg,Xi,Xp,Xs,Xy,X0,X5,X6,X7,X8,Ya,Yc,Yd,Yh,Yk,Yr,Ys,Yt,Yv,Yy,Y2,Y9,Za,Zb,Zc,Zd,Ze,Zg,Zh,Zm,Zn,Zt,Zv,Zw,Zx,Zy,Zz,Z0,Z1,Z3,Ja,Jb,Jg,Jj,Jk,Jl,Jm,Jn,Jo,Jp,Jr,Js,Jt,Ju,Jv,J3,J5,Kc,Kj,Kn,Kv,Kx,Ua,Ub,Uc,Ud,Ue,Uf,Ug,He,Hh,Hi,Hk,Hl,Ho,Hq,Hs,Hu,Hv,Hx,H2,H3,H8,Ne,Ng,Nh,Ni,Nk,Nl,Nm,No,Nw,Nx,Nz,N2,Be,Bg,Bj,Bo,Bw,BB,q15R0.eq_1,q15R1.eq_1,q15R2.eq_1,q15R3.eq_1,q15R4.eq_1,q15R5.eq_1,q15R6.eq_1,q15R8.eq_1,q15R13.eq_1,q15R14.eq_1,q15R15.eq_1,q15R16.eq_1,q15R17.eq_1,q15R18.eq_1,q15R19.eq_1,q15R20.eq_1,q15R21.eq_1,q15R22.eq_1,q15R9.eq_1,q15R10.eq_1,q15R11.eq_1,q15R12.eq_1,q15R7.eq_1,q15R23.eq_1,q15R24.eq_1,q15R25.eq_1,q15R26.eq_1,q15R27.eq_1,q15R28.eq_1,q15R30.eq_1,q15R29.eq_1,q15R31.eq_1,c_ref11_csi.eq_1,c_ref11_csi_L0.eq_1,rl,wl,q,a1,hw,c1,h5,es,hu,hb])
    by_cases c2 : i = 0 ∧ 60 ≤ l[i]
    · obtain ⟨c2, c3⟩ := c2
      refine step l[i] inter asked all n 0 [] (by omega) (by omega) h3 h4 (by rw [csiStep, if_neg c1, if_pos ⟨c2, c3⟩]) ?_
      have d0 : ((i : Int) = 0) = True := eq_true (by omega)
      rw [lp_ref11_csi_0, y_loop, csi_gc0]
      (sym => simp [Qa,Qb,Qc,Qd,Qe,Qf,Qg,Qi,Qj,Qr,Qt,Qu,Qz,Q0,Q2,Q4,Q5,Xa,Xb,Xe,Xg,Xi,Xp,Xs,Xy,X0,X5,X6,X7,X8,Ya,Yc,Yd,Yh,Yk,Yr,Ys,Yt,Yv,Yy,Y2,Y9,Za,Zb,Zc,Zd,Ze,Zg,Zh,Zm,Zn,Zt,Zv,Zw,Zx,Zy,Zz,Z0,Z1,Z3,Ja,Jb,Jg,Jj,Jk,Jl,Jm,Jn,Jo,Jp,Jr,Js,Jt,Ju,Jv,J3,J5,Kc,Kj,Kn,Kv,Kx,Ua,Ub,Uc,Ud,Ue,Uf,Ug,He,Hh,Hi,Hk,Hl,Ho,Hq,Hs,Hu,Hv,Hx,H2,H3,H8,Ne,Ng,Nh,Ni,Nk,Nl,Nm,No,Nw,Nx,Nz,N2,Be,Bg,Bj,Bo,Bw,BB,q15R0.eq_1,q15R1.eq_1,q15R2.eq_1,q15R3.eq_1,q15R4.eq_1,q15R5.eq_1,q15R6.eq_1,q15R8.eq_1,q15R13.eq_1,q15R14.eq_1,q15R15.eq_1,q15R16.eq_1,q15R17.eq_1,q15R18.eq_1,q15R19.eq_1,q15R20.eq_1,q15R21.eq_1,q15R22.eq_1,q15R9.eq_1,q15R10.eq_1,q15R11.eq_1,q15R12.eq_1,q15R7.eq_1,q15R23.eq_1,q15R24.eq_1,q15R25.eq_1,q15R26.eq_1,q15R27.eq_1,q15R28.eq_1,q15R30.eq_1,q15R29.eq_1,q15R31.eq_1,c_ref11_csi.eq_1,c_ref11_csi_L0.eq_1,rl,wl,q,a1,hw,c1,c3,d0])
    by_cases c3 : l[i] = 58 ∨ 60 ≤ l[i] ∨ inter.size ≠ 0
    · have hs : csiStep i l[i] ⟨mark, inter, asked, all, n⟩ = none := by rw [csiStep, if_neg c1, if_neg c2, if_pos c3]
      rw [hs]
      refine ⟨fun _ => ?_, fun _ _ _ _ _ h => (by cases h)⟩
      have c2' : ((i : Int) = 0) → ¬ 60 ≤ l[i] := fun h h' => c2 ⟨by omega, h'⟩
      refine ⟨[⟨6, 0, true, [[.int .i64 4, .int .i32 z, .int .i32 mark, .str inter, .data false 1 [] true, .data false 1 [] true]]⟩, ⟨1, 0, true, ints all⟩], ?_⟩
      rw [lp_ref11_csi_0, y_loop, csi_gc0]
      by_cases d0 : (i : Int) = 0
      · have d1 := c2' d0
        replace d0 : ((i : Int) = 0) = True := eq_true d0
        by_cases d2 : l[i] = 58
        · (sym => simp [Qa,Qb,Qc,Qd,Qe,Qf,Qg,Qi,Qj,Qr,Qt,Qu,Qz,Q0,Q2,Q4,Q5,Xa,Xb,Xe,Xg,Xi,Xp,Xs,Xy,X0,X5,X6,X7,X8,Ya,Yc,Yd,Yh,Yk,Yr,Ys,Yt,Yv,Yy,Y2,Y9,Za,Zb,Zc,Zd,Ze,Zg,Zh,Zm,Zn,Zt,Zv,Zw,Zx,Zy,Zz,Z0,Z1,Z3,Ja,Jb,Jg,Jj,Jk,Jl,Jm,Jn,Jo,Jp,Jr,Js,Jt,Ju,Jv,J3,J5,Kc,Kj,Kn,Kv,Kx,Ua,Ub,Uc,Ud,Ue,Uf,Ug,He,Hh,Hi,Hk,Hl,Ho,Hq,Hs,Hu,Hv,Hx,H2,H3,H8,Ne,Ng,Nh,Ni,Nk,Nl,Nm,No,Nw,Nx,Nz,N2,Be,Bg,Bj,Bo,Bw,BB,q15R0.eq_1,q15R1.eq_1,q15R2.eq_1,q15R3.eq_1,q15R4.eq_1,q15R5.eq_1,q15R6.eq_1,q15R8.eq_1,q15R13.eq_1,q15R14.eq_1,q15R15.eq_1,q15R16.eq_1,q15R17.eq_1,q15R18.eq_1,q15R19.eq_1,q15R20.eq_1,q15R21.eq_1,q15R22.eq_1,q15R9.eq_1,q15R10.eq_1,q15R11.eq_1,q15R12.eq_1,q15R7.eq_1,q15R23.eq_1,q15R24.eq_1,q15R25.eq_1,q15R26.eq_1,q15R27.eq_1,q15R28.eq_1,q15R30.eq_1,q15R29.eq_1,q15R31.eq_1,c_ref11_csi.eq_1,c_ref11_csi_L0.eq_1,rl,wl,q,a1,hw,c1,d0,d1,d2])
        · exfalso
          have d00 := of_eq_true d0
          rcases c3 with h' | h' | h'
          · exact d2 h'
          · exact d1 h'
          · omega
      · by_cases d2 : l[i] = 58
        · (sym => simp [Qa,Qb,Qc,Qd,Qe,Qf,Qg,Qi,Qj,Qr,Qt,Qu,Qz,Q0,Q2,Q4,Q5,Xa,Xb,Xe,Xg,Xi,Xp,Xs,Xy,X0,X5,X6,X7,X8,Ya,Yc,Yd,Yh,Yk,Yr,Ys,Yt,Yv,Yy,Y2,Y9,Za,Zb,Zc,Zd,Ze,Zg,Zh,Zm,Zn,Zt,Zv,Zw,Zx,Zy,Zz,Z0,Z1,Z3,Ja,Jb,Jg,Jj,Jk,Jl,Jm,Jn,Jo,Jp,Jr,Js,Jt,Ju,Jv,J3,J5,Kc,Kj,Kn,Kv,Kx,Ua,Ub,Uc,Ud,Ue,Uf,Ug,He,Hh,Hi,Hk,Hl,Ho,Hq,Hs,Hu,Hv,Hx,H2,H3,H8,Ne,Ng,Nh,Ni,Nk,Nl,Nm,No,Nw,Nx,Nz,N2,Be,Bg,Bj,Bo,Bw,BB,q15R0.eq_1,q15R1.eq_1,q15R2.eq_1,q15R3.eq_1,q15R4.eq_1,q15R5.eq_1,q15R6.eq_1,q15R8.eq_1,q15R13.eq_1,q15R14.eq_1,q15R15.eq_1,q15R16.eq_1,q15R17.eq_1,q15R18.eq_1,q15R19.eq_1,q15R20.eq_1,q15R21.eq_1,q15R22.eq_1,q15R9.eq_1,q15R10.eq_1,q15R11.eq_1,q15R12.eq_1,q15R7.eq_1,q15R23.eq_1,q15R24.eq_1,q15R25.eq_1,q15R26.eq_1,q15R27.eq_1,q15R28.eq_1,q15R30.eq_1,q15R29.eq_1,q15R31.eq_1,c_ref11_csi.eq_1,c_ref11_csi_L0.eq_1,rl,wl,q,a1,hw,c1,d0,d2])
        by_cases d1 : 60 ≤ l[i]
        · (sym => simp [Qa,Qb,Qc,Qd,Qe,Qf,Qg,Qi,Qj,Qr,Qt,Qu,Qz,Q0,Q2,Q4,Q5,Xa,Xb,Xe,Xg,Xi,Xp,Xs,Xy,X0,X5,X6,X7,X8,Ya,Yc,Yd,Yh,Yk,Yr,Ys,Yt,Yv,Yy,Y2,Y9,Za,Zb,Zc,Zd,Ze,Zg,Zh,Zm,Zn,Zt,Zv,Zw,Zx,Zy,Zz,Z0,Z1,Z3,Ja,Jb,Jg,Jj,Jk,Jl,Jm,Jn,Jo,Jp,Jr,Js,Jt,Ju,Jv,J3,J5,Kc,Kj,Kn,Kv,Kx,Ua,Ub,Uc,Ud,Ue,Uf,Ug,He,Hh,Hi,Hk,Hl,Ho,Hq,Hs,Hu,Hv,Hx,H2,H3,H8,Ne,Ng,Nh,Ni,Nk,Nl,Nm,No,Nw,Nx,Nz,N2,Be,Bg,Bj,Bo,Bw,BB,q15R0.eq_1,q15R1.eq_1,q15R2.eq_1,q15R3.eq_1,q15R4.eq_1,q15R5.eq_1,q15R6.eq_1,q15R8.eq_1,q15R13.eq_1,q15R14.eq_1,q15R15.eq_1,q15R16.eq_1,q15R17.eq_1,q15R18.eq_1,q15R19.eq_1,q15R20.eq_1,q15R21.eq_1,q15R22.eq_1,q15R9.eq_1,q15R10.eq_1,q15R11.eq_1,q15R12.eq_1,q15R7.eq_1,q15R23.eq_1,q15R24.eq_1,q15R25.eq_1,q15R26.eq_1,q15R27.eq_1,q15R28.eq_1,q15R30.eq_1,q15R29.eq_1,q15R31.eq_1,c_ref11_csi.eq_1,c_ref11_csi_L0.eq_1,rl,wl,q,a1,hw,c1,d0,d2,d1])
        · have d3 : (inter == { data := #[] }) = false := ba_ne (fun h => by rcases c3 with h' | h' | h'; exact d2 h'; exact d1 h'; exact h' h)
          (sym => simp [Qa,Qb,Qc,Qd,Qe,Qf,Qg,Qi,Qj,Qr,Qt,Qu,Qz,Q0,Q2,Q4,Q5,Xa,Xb,Xe,Xg,Xi,Xp,Xs,Xy,X0,X5,X6,X7,X8,Ya,Yc,Yd,Yh,Yk,Yr,Ys,Yt,Yv,Yy,Y2,Y9,Za,Zb,Zc,Zd,Ze,Zg,Zh,Zm,Zn,Zt,Zv,Zw,Zx,Zy,Zz,Z0,Z1,Z3,Ja,Jb,Jg,Jj,Jk,Jl,Jm,Jn,Jo,Jp,Jr,Js,Jt,Ju,Jv,J3,J5,Kc,Kj,Kn,Kv,Kx,Ua,Ub,Uc,Ud,Ue,Uf,Ug,He,Hh,Hi,Hk,Hl,Ho,Hq,Hs,Hu,Hv,Hx,H2,H3,H8,Ne,Ng,Nh,Ni,Nk,Nl,Nm,No,Nw,Nx,Nz,N2,Be,Bg,Bj,Bo,Bw,BB,q15R0.eq_1,q15R1.eq_1,q15R2.eq_1,q15R3.eq_1,q15R4.eq_1,q15R5.eq_1,q15R6.eq_1,q15R8.eq_1,q15R13.eq_1,q15R14.eq_1,q15R15.eq_1,q15R16.eq_1,q15R17.eq_1,q15R18.eq_1,q15R19.eq_1,q15R20.eq_1,q15R21.eq_1,q15R22.eq_1,q15R9.eq_1,q15R10.eq_1,q15R11.eq_1,q15R12.eq_1,q15R7.eq_1,q15R23.eq_1,q15R24.eq_1,q15R25.eq_1,q15R26.eq_1,q15R27.eq_1,q15R28.eq_1,q15R30.eq_1,q15R29.eq_1,q15R31.eq_1,c_ref11_csi.eq_1,c_ref11_csi_L0.eq_1,rl,wl,q,a1,hw,c1,d0,d1,d2,d3])
    have d1 : ¬ 60 ≤ l[i] := fun h => c3 (.inr (.inl h))
    have d2 : ¬ l[i] = 58 := fun h => c3 (.inl h)
    have d3 : (inter == { data := #[] }) = true := by
      have : inter = ⟨#[]⟩ := size0' (by rcases Nat.eq_zero_or_pos inter.size with h | h; exact h; exact absurd (.inr (.inr (by omega))) c3)
      rw [this]; rfl
    by_cases c4 : l[i] = 59
    · refine step mark inter true (all ++ [n]) 0 1 [⟨1, 0, true, [[.int .i64 n]]⟩] (by omega) (by simp; omega) (by omega) (by omega) (by rw [csiStep, if_neg c1, if_neg c2, if_neg c3, if_pos c4]) ?_
      have al := ints_len all
      have at' : (ints all).take all.length = ints all := List.take_of_length_le (by rw [al]; exact Nat.le_refl _)
      have ia : ints (all ++ [n]) = ints all ++ [[.int .i64 n]] := by simp [ints]
      have hq : (all.length + 1) * 8 ≤ 140737488355328 := by omega
      rw [ia]
      rw [c4] at a1 c1 d1
      rw [lp_ref11_csi_0, y_loop, csi_gc0]
      by_cases d0 : (i : Int) = 0
      · replace d0 : ((i : Int) = 0) = True := eq_true d0
        (sym => simp [Qa,Qb,Qc,Qd,Qe,Qf,Qg,Qi,Qj,Qr,Qt,Qu,Qz,Q0,Q2,Q4,Q5,Xa,Xb,Xe,Xg,Xi,Xp,Xs,Xy,X0,X5,X6,X7,X8,Ya,Yc,Yd,Yh,Yk,Yr,Ys,Yt,Yv,Yy,Y2,Y9,Za,Zb,Zc,Zd,Ze,Zg,Zh,Zm,Zn,Zt,Zv,Zw,Zx,Zy,Zz,Z0,Z1,Z3,Ja,Jb,Jg,Jj,Jk,Jl,Jm,Jn,Jo,Jp,Jr,Js,Jt,Ju,Jv,J3,J5,Kc,Kj,Kn,Kv,Kx,Ua,Ub,Uc,Ud,Ue,Uf,Ug,He,Hh,Hi,Hk,Hl,Ho,Hq,Hs,Hu,Hv,Hx,H2,H3,H8,Ne,Ng,Nh,Ni,Nk,Nl,Nm,No,Nw,Nx,Nz,N2,Be,Bg,Bj,Bo,Bw,BB,q15R0.eq_1,q15R1.eq_1,q15R2.eq_1,q15R3.eq_1,q15R4.eq_1,q15R5.eq_1,q15R6.eq_1,q15R8.eq_1,q15R13.eq_1,q15R14.eq_1,q15R15.eq_1,q15R16.eq_1,q15R17.eq_1,q15R18.eq_1,q15R19.eq_1,q15R20.eq_1,q15R21.eq_1,q15R22.eq_1,q15R9.eq_1,q15R10.eq_1,q15R11.eq_1,q15R12.eq_1,q15R7.eq_1,q15R23.eq_1,q15R24.eq_1,q15R25.eq_1,q15R26.eq_1,q15R27.eq_1,q15R28.eq_1,q15R30.eq_1,q15R29.eq_1,q15R31.eq_1,c_ref11_csi.eq_1,c_ref11_csi_L0.eq_1,rl,wl,q,a1,hw,d0,d3,al,at',hq,List.length_append])
      · (sym => simp [Qa,Qb,Qc,Qd,Qe,Qf,Qg,Qi,Qj,Qr,Qt,Qu,Qz,Q0,Q2,Q4,Q5,Xa,Xb,Xe,Xg,Xi,Xp,Xs,Xy,X0,X5,X6,X7,X8,Ya,Yc,Yd,Yh,Yk,Yr,Ys,Yt,Yv,Yy,Y2,Y9,Za,Zb,Zc,Zd,Ze,Zg,Zh,Zm,Zn,Zt,Zv,Zw,Zx,Zy,Zz,Z0,Z1,Z3,Ja,Jb,Jg,Jj,Jk,Jl,Jm,Jn,Jo,Jp,Jr,Js,Jt,Ju,Jv,J3,J5,Kc,Kj,Kn,Kv,Kx,Ua,Ub,Uc,Ud,Ue,Uf,Ug,He,Hh,Hi,Hk,Hl,Ho,Hq,Hs,Hu,Hv,Hx,H2,H3,H8,Ne,Ng,Nh,Ni,Nk,Nl,Nm,No,Nw,Nx,Nz,N2,Be,Bg,Bj,Bo,Bw,BB,q15R0.eq_1,q15R1.eq_1,q15R2.eq_1,q15R3.eq_1,q15R4.eq_1,q15R5.eq_1,q15R6.eq_1,q15R8.eq_1,q15R13.eq_1,q15R14.eq_1,q15R15.eq_1,q15R16.eq_1,q15R17.eq_1,q15R18.eq_1,q15R19.eq_1,q15R20.eq_1,q15R21.eq_1,q15R22.eq_1,q15R9.eq_1,q15R10.eq_1,q15R11.eq_1,q15R12.eq_1,q15R7.eq_1,q15R23.eq_1,q15R24.eq_1,q15R25.eq_1,q15R26.eq_1,q15R27.eq_1,q15R28.eq_1,q15R30.eq_1,q15R29.eq_1,q15R31.eq_1,c_ref11_csi.eq_1,c_ref11_csi_L0.eq_1,rl,wl,q,a1,hw,d0,d3,al,at',hq,List.length_append])
    · have h6 : ¬ l[i] < 48 := c1
      have u1 : IntKind.i64.wrap (10 * n) = 10 * n := wrap_in _ (by omega) (by omega)
      have u2 : IntKind.i64.wrap l[i] = l[i] := wrap_in _ (by omega) (by omega)
      have u2' : asum .i64 l[i] = .int .i64 l[i] := by unfold asum; rw [u2]
      have u3 : IntKind.i64.wrap (10 * n + l[i]) = 10 * n + l[i] := wrap_in _ (by omega) (by omega)
      have u4 : IntKind.i64.wrap (10 * n + l[i] - 48) = 10 * n + l[i] - 48 := wrap_in _ (by omega) (by omega)
      by_cases c5 : 9999 < 10 * n + l[i] - 48
      · refine step mark inter true all 9999 0 [] (by omega) (by omega) (by omega) (by omega) (by rw [csiStep, if_neg c1, if_neg c2, if_neg c3, if_neg c4, if_pos c5]) ?_
        rw [lp_ref11_csi_0, y_loop, csi_gc0]
        by_cases d0 : (i : Int) = 0
        · replace d0 : ((i : Int) = 0) = True := eq_true d0
          (sym => simp [Qa,Qb,Qc,Qd,Qe,Qf,Qg,Qi,Qj,Qr,Qt,Qu,Qz,Q0,Q2,Q4,Q5,Xa,Xb,Xe,Xg,Xi,Xp,Xs,Xy,X0,X5,X6,X7,X8,Ya,Yc,Yd,Yh,Yk,Yr,Ys,Yt,Yv,Yy,Y2,Y9,Za,Zb,Zc,Zd,Ze,Zg,Zh,Zm,Zn,Zt,Zv,Zw,Zx,Zy,Zz,Z0,Z1,Z3,Ja,Jb,Jg,Jj,Jk,Jl,Jm,Jn,Jo,Jp,Jr,Js,Jt,Ju,Jv,J3,J5,Kc,Kj,Kn,Kv,Kx,Ua,Ub,Uc,Ud,Ue,Uf,Ug,He,Hh,Hi,Hk,Hl,Ho,Hq,Hs,Hu,Hv,Hx,H2,H3,H8,Ne,Ng,Nh,Ni,Nk,Nl,Nm,No,Nw,Nx,Nz,N2,Be,Bg,Bj,Bo,Bw,BB,q15R0.eq_1,q15R1.eq_1,q15R2.eq_1,q15R3.eq_1,q15R4.eq_1,q15R5.eq_1,q15R6.eq_1,q15R8.eq_1,q15R13.eq_1,q15R14.eq_1,q15R15.eq_1,q15R16.eq_1,q15R17.eq_1,q15R18.eq_1,q15R19.eq_1,q15R20.eq_1,q15R21.eq_1,q15R22.eq_1,q15R9.eq_1,q15R10.eq_1,q15R11.eq_1,q15R12.eq_1,q15R7.eq_1,q15R23.eq_1,q15R24.eq_1,q15R25.eq_1,q15R26.eq_1,q15R27.eq_1,q15R28.eq_1,q15R30.eq_1,q15R29.eq_1,q15R31.eq_1,c_ref11_csi.eq_1,c_ref11_csi_L0.eq_1,rl,wl,q,a1,hw,c1,c4,c5,d0,d1,d2,d3,u1,u2,u2',u3,u4])
        · (sym => simp [Qa,Qb,Qc,Qd,Qe,Qf,Qg,Qi,Qj,Qr,Qt,Qu,Qz,Q0,Q2,Q4,Q5,Xa,Xb,Xe,Xg,Xi,Xp,Xs,Xy,X0,X5,X6,X7,X8,Ya,Yc,Yd,Yh,Yk,Yr,Ys,Yt,Yv,Yy,Y2,Y9,Za,Zb,Zc,Zd,Ze,Zg,Zh,Zm,Zn,Zt,Zv,Zw,Zx,Zy,Zz,Z0,Z1,Z3,Ja,Jb,Jg,Jj,Jk,Jl,Jm,Jn,Jo,Jp,Jr,Js,Jt,Ju,Jv,J3,J5,Kc,Kj,Kn,Kv,Kx,Ua,Ub,Uc,Ud,Ue,Uf,Ug,He,Hh,Hi,Hk,Hl,Ho,Hq,Hs,Hu,Hv,Hx,H2,H3,H8,Ne,Ng,Nh,Ni,Nk,Nl,Nm,No,Nw,Nx,Nz,N2,Be,Bg,Bj,Bo,Bw,BB,q15R0.eq_1,q15R1.eq_1,q15R2.eq_1,q15R3.eq_1,q15R4.eq_1,q15R5.eq_1,q15R6.eq_1,q15R8.eq_1,q15R13.eq_1,q15R14.eq_1,q15R15.eq_1,q15R16.eq_1,q15R17.eq_1,q15R18.eq_1,q15R19.eq_1,q15R20.eq_1,q15R21.eq_1,q15R22.eq_1,q15R9.eq_1,q15R10.eq_1,q15R11.eq_1,q15R12.eq_1,q15R7.eq_1,q15R23.eq_1,q15R24.eq_1,q15R25.eq_1,q15R26.eq_1,q15R27.eq_1,q15R28.eq_1,q15R30.eq_1,q15R29.eq_1,q15R31.eq_1,c_ref11_csi.eq_1,c_ref11_csi_L0.eq_1,rl,wl,q,a1,hw,c1,c4,c5,d0,d1,d2,d3,u1,u2,u2',u3,u4])
      · refine step mark inter true all (10 * n + l[i] - 48) 0 [] (by omega) (by omega) (by omega) (by omega) (by rw [csiStep, if_neg c1, if_neg c2, if_neg c3, if_neg c4, if_neg c5]) ?_
        rw [lp_ref11_csi_0, y_loop, csi_gc0]
        by_cases d0 : (i : Int) = 0
        · replace d0 : ((i : Int) = 0) = True := eq_true d0
          (sym => simp [Qa,Qb,Qc,Qd,Qe,Qf,Qg,Qi,Qj,Qr,Qt,Qu,Qz,Q0,Q2,Q4,Q5,Xa,Xb,Xe,Xg,Xi,Xp,Xs,Xy,X0,X5,X6,X7,X8,Ya,Yc,Yd,Yh,Yk,Yr,Ys,Yt,Yv,Yy,Y2,Y9,Za,Zb,Zc,Zd,Ze,Zg,Zh,Zm,Zn,Zt,Zv,Zw,Zx,Zy,Zz,Z0,Z1,Z3,Ja,Jb,Jg,Jj,Jk,Jl,Jm,Jn,Jo,Jp,Jr,Js,Jt,Ju,Jv,J3,J5,Kc,Kj,Kn,Kv,Kx,Ua,Ub,Uc,Ud,Ue,Uf,Ug,He,Hh,Hi,Hk,Hl,Ho,Hq,Hs,Hu,Hv,Hx,H2,H3,H8,Ne,Ng,Nh,Ni,Nk,Nl,Nm,No,Nw,Nx,Nz,N2,Be,Bg,Bj,Bo,Bw,BB,q15R0.eq_1,q15R1.eq_1,q15R2.eq_1,q15R3.eq_1,q15R4.eq_1,q15R5.eq_1,q15R6.eq_1,q15R8.eq_1,q15R13.eq_1,q15R14.eq_1,q15R15.eq_1,q15R16.eq_1,q15R17.eq_1,q15R18.eq_1,q15R19.eq_1,q15R20.eq_1,q15R21.eq_1,q15R22.eq_1,q15R9.eq_1,q15R10.eq_1,q15R11.eq_1,q15R12.eq_1,q15R7.eq_1,q15R23.eq_1,q15R24.eq_1,q15R25.eq_1,q15R26.eq_1,q15R27.eq_1,q15R28.eq_1,q15R30.eq_1,q15R29.eq_1,q15R31.eq_1,c_ref11_csi.eq_1,c_ref11_csi_L0.eq_1,rl,wl,q,a1,hw,c1,c4,c5,d0,d1,d2,d3,u1,u2,u2',u3,u4])
        · (sym => simp [Qa,Qb,Qc,Qd,Qe,Qf,Qg,Qi,Qj,Qr,Qt,Qu,Qz,Q0,Q2,Q4,Q5,Xa,Xb,Xe,Xg,Xi,Xp,Xs,Xy,X0,X5,X6,X7,X8,Ya,Yc,Yd,Yh,Yk,Yr,Ys,Yt,Yv,Yy,Y2,Y9,Za,Zb,Zc,Zd,Ze,Zg,Zh,Zm,Zn,Zt,Zv,Zw,Zx,Zy,Zz,Z0,Z1,Z3,Ja,Jb,Jg,Jj,Jk,Jl,Jm,Jn,Jo,Jp,Jr,Js,Jt,Ju,Jv,J3,J5,Kc,Kj,Kn,Kv,Kx,Ua,Ub,Uc,Ud,Ue,Uf,Ug,He,Hh,Hi,Hk,Hl,Ho,Hq,Hs,Hu,Hv,Hx,H2,H3,H8,Ne,Ng,Nh,Ni,Nk,Nl,Nm,No,Nw,Nx,Nz,N2,Be,Bg,Bj,Bo,Bw,BB,q15R0.eq_1,q15R1.eq_1,q15R2.eq_1,q15R3.eq_1,q15R4.eq_1,q15R5.eq_1,q15R6.eq_1,q15R8.eq_1,q15R13.eq_1,q15R14.eq_1,q15R15.eq_1,q15R16.eq_1,q15R17.eq_1,q15R18.eq_1,q15R19.eq_1,q15R20.eq_1,q15R21.eq_1,q15R22.eq_1,q15R9.eq_1,q15R10.eq_1,q15R11.eq_1,q15R12.eq_1,q15R7.eq_1,q15R23.eq_1,q15R24.eq_1,q15R25.eq_1,q15R26.eq_1,q15R27.eq_1,q15R28.eq_1,q15R30.eq_1,q15R29.eq_1,q15R31.eq_1,c_ref11_csi.eq_1,c_ref11_csi_L0.eq_1,rl,wl,q,a1,hw,c1,c4,c5,d0,d1,d2,d3,u1,u2,u2',u3,u4])
end Go.Proofs.Ytkkcblfoaldckaa
