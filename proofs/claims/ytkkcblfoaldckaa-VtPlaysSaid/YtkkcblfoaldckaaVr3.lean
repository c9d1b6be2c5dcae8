/- The document's parser: an escape; a code point alone; what is held. Conditions: none. -/
import Derived.Test.YtkkcblfoaldckaaVr2
set_option linter.unusedVariables false
set_option linter.unusedSimpArgs false
set_option linter.unusedSectionVars false
set_option maxRecDepth 20000
set_option maxHeartbeats 2000000
namespace Go.Proofs.Ytkkcblfoaldckaa
open Go
variable (G : Nat → Option (List AV)) (z mark : Int) (inter : ByteArray)
theorem esc_gc (l : List (List AV)) (bl fl : Bool) (n i : Int) (R : List ARow) : agc 0 [0, 3, 4, 5] ⟨[(0, .data bl 1 l fl), (3, .int .i64 n), (4, .ptr 0 0 0 0), (5, .int .i64 i)], ⟨6, 0, true, [[.int .i64 3, .int .i32 z, .int .i32 0, .str inter, .data false 1 [] true, .data false 1 [] true]]⟩ :: R⟩ =
    some ⟨[(0, .data bl 1 l fl), (3, .int .i64 n), (4, .ptr 0 0 0 0), (5, .int .i64 i)], [⟨6, 0, true, [[.int .i64 3, .int .i32 z, .int .i32 0, .str inter, .data false 1 [] true, .data false 1 [] true]]⟩]⟩ := by
  have l0 : 0 < R.length + 1 := by omega
  (sym => simp [Y9,Za,Zb,Ze,Zk,Zl,Zn,Zv,Zw,Zx,Zy,Zz,Z0,Z3,Ut,Ux,U0,U4,U5,U7,Vb,Ve,Vk,Vm,Vo,Vp,Vq,Vr,Vs,Vt,Vu,Vv,Vw,Vx,Vy,Vz,V0,Hh,Hp,Hv,Hw,H1,H5,H6,Nl,No,Nx,l0])
theorem esc_loop (l : List Int) (bl fl : Bool) (n : Nat) (hn : n ≤ l.length) (hn2 : n ≤ 1000) : ∀ m i, i + m = n → ∀ (inter : ByteArray) (R : List ARow), inter.size ≤ i →
    aE G FT 0 lp_ref11_esc_0 ⟨[(0, .data bl 1 (rn l) fl), (3, .int .i64 n), (4, .ptr 0 0 0 0), (5, .int .i64 i)], ⟨6, 0, true, [[.int .i64 3, .int .i32 z, .int .i32 0, .str inter, .data false 1 [] true, .data false 1 [] true]]⟩ :: R⟩ =
      some (.exit 0, ⟨[(0, .data bl 1 (rn l) fl), (3, .int .i64 n), (4, .ptr 0 0 0 0), (5, .int .i64 n), (18, .bool false)], [⟨6, 0, true, [[.int .i64 3, .int .i32 z, .int .i32 0, .str (((l.take n).drop i).foldl (fun s c => s ++ byteS c) inter), .data false 1 [] true, .data false 1 [] true]]⟩]⟩) := by
  intro m
  induction m with
  | zero =>
    intro i hi inter R h1
    obtain rfl : i = n := by omega
    have e : (l.take i).drop i = [] := by rw [List.drop_eq_nil_iff]; simp; omega
    have q : ¬ (i : Int) < i := by omega
    rw [e, List.foldl_nil, lp_ref11_esc_0, y_loop, esc_gc]
    (sym => simp [Qa,Qc,Qd,Qe,Qi,Qj,Qr,Qt,Qz,Q0,Q2,Q4,Q5,Xa,Xe,Xg,Xi,Xp,Xs,X5,Ya,Yk,Yr,Ys,Yt,Yv,Yy,Y2,Y9,Za,Zb,Zc,Zd,Ze,Zg,Zh,Zm,Zn,Zt,Zv,Zw,Zx,Zy,Zz,Z0,Z1,Z3,Jj,Jk,Jm,Jn,Jo,Jr,Js,Ju,Jv,J5,Kc,Ua,Ub,Uc,Ud,Ue,Uf,Ug,He,Hh,Hi,Hk,Hl,Ho,Hq,Hs,Hu,Hv,H2,H3,Ni,Nk,Nl,Nm,No,Nz,Be,q16R0.eq_1,q16R1.eq_1,q16R2.eq_1,q16R3.eq_1,q16R4.eq_1,q16R5.eq_1,q16R6.eq_1,q16R8.eq_1,q16R7.eq_1,q16R9.eq_1,c_ref11_esc.eq_1,c_ref11_esc_L0.eq_1,q])
  | succ m ih =>
    intro i hi inter R h1
    have hl : i < l.length := by omega
    have e : (l.take n).drop i = l[i] :: (l.take n).drop (i + 1) := by rw [List.drop_eq_getElem_cons (by simp; omega)]; simp
    have q : (i : Int) < n := by omega
    have a1 := rn_at hl
    have rl := rn_len l
    have hw := wrap_nat (n := i) (by omega)
    have h5 : ¬ IntKind.i64.max < ((inter.size + 1 : Nat) : Int) := by have : IntKind.i64.max = 9223372036854775807 := rfl; omega
    have b1 : (byteS l[i]).size = 1 := rfl
    have eb : byteS l[i] = ⟨#[UInt8.ofNat (IntKind.u8.wrap l[i]).toNat]⟩ := rfl
    have es : (⟨#[UInt8.ofNat (IntKind.u8.wrap l[i]).toNat]⟩ : ByteArray).size = 1 := rfl
    have hb : ∀ x : Int, asBytes [[.int .u8 x]] = some [UInt8.ofNat x.toNat] := fun x => rfl
    have hu : asum .u8 l[i] = .int .u8 (IntKind.u8.wrap l[i]) := rfl
    have ih := ih (i + 1) (by omega) (inter ++ byteS l[i]) [⟨1, 0, true, [[.int .u8 (IntKind.u8.wrap l[i])]]⟩] (by rw [ByteArray.size_append, b1]; omega)
    rw [lp_ref11_esc_0] at ih
    rw [e, List.foldl_cons, lp_ref11_esc_0, y_loop, esc_gc, ← ih, eb]
    (sym => simp [Qa,Qc,Qd,Qe,Qi,Qj,Qr,Qt,Qz,Q0,Q2,Q4,Q5,Xa,Xe,Xg,Xi,Xp,Xs,X5,Ya,Yk,Yr,Ys,Yt,Yv,Yy,Y2,Y9,Za,Zb,Zc,Zd,Ze,Zg,Zh,Zm,Zn,Zt,Zv,Zw,Zx,Zy,Zz,Z0,Z1,Z3,Jj,Jk,Jm,Jn,Jo,Jr,Js,Ju,Jv,J5,Kc,Ua,Ub,Uc,Ud,Ue,Uf,Ug,He,Hh,Hi,Hk,Hl,Ho,Hq,Hs,Hu,Hv,H2,H3,Ni,Nk,Nl,Nm,No,Nz,Be,q16R0.eq_1,q16R1.eq_1,q16R2.eq_1,q16R3.eq_1,q16R4.eq_1,q16R5.eq_1,q16R6.eq_1,q16R8.eq_1,q16R7.eq_1,q16R9.eq_1,c_ref11_esc.eq_1,c_ref11_esc_L0.eq_1,q,a1,rl,hw,h5,es,hb,hu])
def escT (l : List Int) (z : Int) : List Act' := if 2 < l.length - 1 then [] else [escA z ((l.take (l.length - 1)).foldl (fun s c => s ++ byteS c) ⟨#[]⟩)]
theorem resc_P (l : List Int) (bl fl : Bool) (hl : l.length ≤ 10000) (h0 : l ≠ []) (hz : l[l.length - 1]? = some z) : aP G FT n_ref11_esc [.data bl 1 (rn l) fl] = some (.data false 6 (actG (escT l z)) false) := by
  have rl := rn_len l
  have hp : 0 < l.length := List.length_pos_iff.2 h0
  have wl : IntKind.i64.wrap ((l.length : Int) - 1) = ((l.length - 1 : Nat) : Int) := by rw [wrap_in _ (by omega) (by omega)]; omega
  have a1 : (rn l)[l.length - 1]? = some [.int .i32 z] := by rw [rn, List.getElem?_map, hz]; rfl
  have q0 : ((l.length - 1 : Nat) : Int) < (l.length : Int) := by omega
  unfold aP escT
  rw [run_ref11_esc]
  by_cases c1 : 2 < l.length - 1
  · rw [if_pos c1]
    have c1' : (2 : Int) < (l.length - 1 : Nat) := by omega
    have ae : actG [] = [] := rfl
    (sym => simp [Qb,Qc,Qd,Qe,Qi,Qj,Qr,Qt,Qv,Qx,Qy,Qz,Q0,Q1,Q2,Q4,Q5,Xa,Xs,Xy,X6,Yc,Yh,Yj,Yk,Yr,Ys,Yt,Yu,Yy,Y1,Y5,Y7,Y9,Za,Zb,Zc,Zd,Ze,Zg,Zh,Zi,Zj,Zk,Zl,Zm,Zn,Zr,Zs,Zt,Zu,Zv,Zw,Zx,Zy,Zz,Z0,Z1,Z3,Jj,Jk,Jl,Jn,Jq,Jr,Jv,Jx,J1,J2,K8,K9,Ua,Ub,Uc,Ud,Ue,Uf,Ug,Ui,Ul,Wf,Wg,Hh,Hi,Hk,Ho,Hp,Hq,Hr,Hs,Ht,Hu,Hv,Hw,H2,H3,Ne,Ni,Nk,Nl,Nm,No,Nx,Nz,N0,Be,q16R0.eq_1,q16R1.eq_1,q16R2.eq_1,q16R3.eq_1,q16R4.eq_1,q16R5.eq_1,q16R6.eq_1,q16R8.eq_1,q16R7.eq_1,q16R9.eq_1,c_ref11_esc.eq_1,rl,wl,c1',ae])
  · rw [if_neg c1]
    have c1' : ¬ (2 : Int) < (l.length - 1 : Nat) := by omega
    have k := esc_loop G z l bl fl (l.length - 1) (by omega) (by omega) (l.length - 1) 0 (by omega) ⟨#[]⟩ [] (by simp [ByteArray.size])
    rw [List.drop_zero] at k
    simp only [Int.natCast_zero] at k
    have ae : actG [escA z ((l.take (l.length - 1)).foldl (fun s c => s ++ byteS c) ⟨#[]⟩)] = [[.int .i64 3, .int .i32 z, .int .i32 0, .str ((l.take (l.length - 1)).foldl (fun s c => s ++ byteS c) ⟨#[]⟩), .data false 1 [] true, .data false 1 [] true]] := rfl
    rw [ae]
    (sym => simp [Qb,Qc,Qd,Qe,Qi,Qj,Qr,Qt,Qv,Qx,Qy,Qz,Q0,Q1,Q2,Q4,Q5,Xa,Xs,Xy,X6,Yc,Yh,Yj,Yk,Yr,Ys,Yt,Yu,Yy,Y1,Y5,Y7,Y9,Za,Zb,Zc,Zd,Ze,Zg,Zh,Zi,Zj,Zk,Zl,Zm,Zn,Zr,Zs,Zt,Zu,Zv,Zw,Zx,Zy,Zz,Z0,Z1,Z3,Jj,Jk,Jl,Jn,Jq,Jr,Jv,Jx,J1,J2,K8,K9,Ua,Ub,Uc,Ud,Ue,Uf,Ug,Ui,Ul,Wf,Wg,Hh,Hi,Hk,Ho,Hp,Hq,Hr,Hs,Ht,Hu,Hv,Hw,H2,H3,Ne,Ni,Nk,Nl,Nm,No,Nx,Nz,N0,Be,q16R0.eq_1,q16R1.eq_1,q16R2.eq_1,q16R3.eq_1,q16R4.eq_1,q16R5.eq_1,q16R6.eq_1,q16R8.eq_1,q16R7.eq_1,q16R9.eq_1,c_ref11_esc.eq_1,rl,wl,a1,q0,c1',k])
theorem word_P (c : Int) : aP G FT n_ref11_word [.int .i32 c] = some (.data false 6 (actG (wordT c)) false) := by
  unfold aP wordT
  rw [run_ref11_word]
  by_cases h1 : c = 127
  · subst h1; rw [if_pos rfl]; have e : actG [] = [] := rfl; (sym => simp [Qb,Qc,Qd,Qe,Qi,Qj,Qr,Qt,Qx,Qy,Qz,Q0,Q1,Q2,Xa,X8,Ya,Yj,Yk,Y1,Y5,Y7,Y9,Za,Zb,Zc,Ze,Zg,Zh,Zi,Zj,Zk,Zl,Zm,Zn,Zr,Zs,Zt,Zu,Zv,Zw,Zx,Zy,Zz,Z0,Z3,Jj,Jk,Jl,Jr,Jv,Jx,J1,K8,K9,Ua,Ub,Uc,Ud,Ue,Uf,Ug,Ui,Ul,Wf,Wg,Hh,Hk,Ho,Hp,Hq,Hr,Hs,Hu,Hv,H2,H3,Nl,Nm,No,Nx,Nz,Be,q17R0.eq_1,q17R1.eq_1,q17R2.eq_1,q17R3.eq_1,q17R4.eq_1,q17R5.eq_1,c_ref11_word.eq_1,e])
  by_cases h2 : c < 32
  · rw [if_neg h1, if_pos h2]
    have e : actG [actC 2 c] = [[.int .i64 2, .int .i32 c, .int .i32 0, .str ⟨#[]⟩, .data false 1 [] true, .data false 1 [] true]] := rfl
    (sym => simp [Qb,Qc,Qd,Qe,Qi,Qj,Qr,Qt,Qx,Qy,Qz,Q0,Q1,Q2,Xa,X8,Ya,Yj,Yk,Y1,Y5,Y7,Y9,Za,Zb,Zc,Ze,Zg,Zh,Zi,Zj,Zk,Zl,Zm,Zn,Zr,Zs,Zt,Zu,Zv,Zw,Zx,Zy,Zz,Z0,Z3,Jj,Jk,Jl,Jr,Jv,Jx,J1,K8,K9,Ua,Ub,Uc,Ud,Ue,Uf,Ug,Ui,Ul,Wf,Wg,Hh,Hk,Ho,Hp,Hq,Hr,Hs,Hu,Hv,H2,H3,Nl,Nm,No,Nx,Nz,Be,q17R0.eq_1,q17R1.eq_1,q17R2.eq_1,q17R3.eq_1,q17R4.eq_1,q17R5.eq_1,c_ref11_word.eq_1,h1,h2,e])
  · rw [if_neg h1, if_neg h2]
    have e : actG [actC 1 c] = [[.int .i64 1, .int .i32 c, .int .i32 0, .str ⟨#[]⟩, .data false 1 [] true, .data false 1 [] true]] := rfl
    (sym => simp [Qb,Qc,Qd,Qe,Qi,Qj,Qr,Qt,Qx,Qy,Qz,Q0,Q1,Q2,Xa,X8,Ya,Yj,Yk,Y1,Y5,Y7,Y9,Za,Zb,Zc,Ze,Zg,Zh,Zi,Zj,Zk,Zl,Zm,Zn,Zr,Zs,Zt,Zu,Zv,Zw,Zx,Zy,Zz,Z0,Z3,Jj,Jk,Jl,Jr,Jv,Jx,J1,K8,K9,Ua,Ub,Uc,Ud,Ue,Uf,Ug,Ui,Ul,Wf,Wg,Hh,Hk,Ho,Hp,Hq,Hr,Hs,Hu,Hv,H2,H3,Nl,Nm,No,Nx,Nz,Be,q17R0.eq_1,q17R1.eq_1,q17R2.eq_1,q17R3.eq_1,q17R4.eq_1,q17R5.eq_1,c_ref11_word.eq_1,h1,h2,e])
end Go.Proofs.Ytkkcblfoaldckaa
