/- What the parser's small functions come to. Conditions: none. -/
import Derived.Test.YtkkcblfoaldckaaCd
import Derived.Test.YtkkcblfoaldckaaM3
set_option linter.unusedVariables false
set_option linter.unusedSimpArgs false
set_option linter.unusedSectionVars false
set_option maxRecDepth 20000
set_option maxHeartbeats 1000000
namespace Go.Proofs.Ytkkcblfoaldckaa
open Go
variable (G : Nat → Option (List AV))
def rn (l : List Int) : List (List AV) := l.map fun n => [.int .i32 n]
theorem rn_len (l : List Int) : (rn l).length = l.length := by simp [rn]
theorem rn_append (l m : List Int) : rn (l ++ m) = rn l ++ rn m := by simp [rn]
theorem rn_at {l : List Int} {i : Nat} (h : i < l.length) : (rn l)[i]? = some [.int .i32 l[i]] := by simp [rn, h]
/-- An action. -/
structure Act' where
  kind : Int
  c : Int
  mark : Int
  inter : ByteArray
  ps : List Int
  pf : Bool
  ts : List Int
  tf : Bool
def Act'.g (a : Act') : List AV := [.int .i64 a.kind, .int .i32 a.c, .int .i32 a.mark, .str a.inter, .data false 1 (ints a.ps) a.pf, .data false 1 (rn a.ts) a.tf]
def actG (l : List Act') : List (List AV) := l.map Act'.g
/-- An action of a code point alone. -/
def actC (k c : Int) : Act' := ⟨k, c, 0, ⟨#[]⟩, [], true, [], true⟩
def wordT (c : Int) : List Act' := if c = 127 then [] else if c < 32 then [actC 2 c] else [actC 1 c]
def pointT (c : Int) : Int := if c < 0 ∨ 1114111 < c ∨ 55296 ≤ c ∧ c ≤ 57343 then 65533 else c
theorem point_P (c : Int) : aP G FT n_vt_point [.int .i32 c] = some (.int .i32 (pointT c)) := by
  unfold aP pointT
  rw [run_vt_point]
  by_cases h1 : c < 0
  · rw [if_pos (.inl h1)]; (sym => simp [Qb,Qc,Qd,Qe,Qf,Qg,Qh,Qi,Qj,Qr,Qt,Qu,Xa,Ya,Yb,Yc,Yd,Y1,Y5,Y7,Y9,Za,Zb,Zc,Ze,Zg,Zh,Zi,Zj,Zk,Zl,Zm,Zr,Zs,Zt,Zu,Zv,Zw,Z3,Ja,Jb,Jj,Jk,Jl,Jr,Jv,Jx,Wj,Nl,Nm,Nw,Nx,Be,q31R0.eq_1,q31R1.eq_1,q31R2.eq_1,q31R3.eq_1,c_vt_point.eq_1,h1])
  by_cases h2 : 1114111 < c
  · rw [if_pos (.inr (.inl h2))]; (sym => simp [Qb,Qc,Qd,Qe,Qf,Qg,Qh,Qi,Qj,Qr,Qt,Qu,Xa,Ya,Yb,Yc,Yd,Y1,Y5,Y7,Y9,Za,Zb,Zc,Ze,Zg,Zh,Zi,Zj,Zk,Zl,Zm,Zr,Zs,Zt,Zu,Zv,Zw,Z3,Ja,Jb,Jj,Jk,Jl,Jr,Jv,Jx,Wj,Nl,Nm,Nw,Nx,Be,q31R0.eq_1,q31R1.eq_1,q31R2.eq_1,q31R3.eq_1,c_vt_point.eq_1,h1,h2])
  by_cases h3 : 55296 ≤ c
  · by_cases h4 : c ≤ 57343
    · rw [if_pos (.inr (.inr ⟨h3, h4⟩))]; (sym => simp [Qb,Qc,Qd,Qe,Qf,Qg,Qh,Qi,Qj,Qr,Qt,Qu,Xa,Ya,Yb,Yc,Yd,Y1,Y5,Y7,Y9,Za,Zb,Zc,Ze,Zg,Zh,Zi,Zj,Zk,Zl,Zm,Zr,Zs,Zt,Zu,Zv,Zw,Z3,Ja,Jb,Jj,Jk,Jl,Jr,Jv,Jx,Wj,Nl,Nm,Nw,Nx,Be,q31R0.eq_1,q31R1.eq_1,q31R2.eq_1,q31R3.eq_1,c_vt_point.eq_1,h1,h2,h3,h4])
    · rw [if_neg (by omega)]; (sym => simp [Qb,Qc,Qd,Qe,Qf,Qg,Qh,Qi,Qj,Qr,Qt,Qu,Xa,Ya,Yb,Yc,Yd,Y1,Y5,Y7,Y9,Za,Zb,Zc,Ze,Zg,Zh,Zi,Zj,Zk,Zl,Zm,Zr,Zs,Zt,Zu,Zv,Zw,Z3,Ja,Jb,Jj,Jk,Jl,Jr,Jv,Jx,Wj,Nl,Nm,Nw,Nx,Be,q31R0.eq_1,q31R1.eq_1,q31R2.eq_1,q31R3.eq_1,c_vt_point.eq_1,h1,h2,h3,h4])
  · rw [if_neg (by omega)]; (sym => simp [Qb,Qc,Qd,Qe,Qf,Qg,Qh,Qi,Qj,Qr,Qt,Qu,Xa,Ya,Yb,Yc,Yd,Y1,Y5,Y7,Y9,Za,Zb,Zc,Ze,Zg,Zh,Zi,Zj,Zk,Zl,Zm,Zr,Zs,Zt,Zu,Zv,Zw,Z3,Ja,Jb,Jj,Jk,Jl,Jr,Jv,Jx,Wj,Nl,Nm,Nw,Nx,Be,q31R0.eq_1,q31R1.eq_1,q31R2.eq_1,q31R3.eq_1,c_vt_point.eq_1,h1,h2,h3])
theorem ground_P (c : Int) : aP G FT n_vt_ground [.int .i32 c] = some (.data false 6 (actG (wordT c)) false) := by
  unfold aP wordT
  rw [run_vt_ground]
  by_cases h1 : c = 127
  · subst h1; rw [if_pos rfl]; have e : actG [] = [] := rfl; (sym => simp [Qb,Qc,Qd,Qe,Qi,Qj,Qr,Qt,Qx,Qy,Qz,Q0,Q1,Q2,Xa,X8,Ya,Yj,Yk,Y1,Y5,Y7,Y9,Za,Zb,Zc,Ze,Zg,Zh,Zi,Zj,Zk,Zl,Zm,Zn,Zr,Zs,Zt,Zu,Zv,Zw,Zx,Zy,Zz,Z0,Z3,Jj,Jk,Jl,Jn,Jo,Jp,Jr,Jv,Jx,J1,K8,K9,Ua,Ub,Uc,Ud,Ue,Uf,Ug,Ui,Ul,Wf,Wg,Hh,Hk,Ho,Hp,Hq,Hr,Hs,Hu,Hv,H2,H3,Nl,Nm,No,Nx,Nz,Be,q30R0.eq_1,q30R1.eq_1,q30R2.eq_1,q30R3.eq_1,q30R4.eq_1,q30R5.eq_1,c_vt_ground.eq_1,e])
  by_cases h2 : c < 32
  · rw [if_neg h1, if_pos h2]
    have e : actG [actC 2 c] = [[.int .i64 2, .int .i32 c, .int .i32 0, .str ⟨#[]⟩, .data false 1 [] true, .data false 1 [] true]] := rfl
    (sym => simp [Qb,Qc,Qd,Qe,Qi,Qj,Qr,Qt,Qx,Qy,Qz,Q0,Q1,Q2,Xa,X8,Ya,Yj,Yk,Y1,Y5,Y7,Y9,Za,Zb,Zc,Ze,Zg,Zh,Zi,Zj,Zk,Zl,Zm,Zn,Zr,Zs,Zt,Zu,Zv,Zw,Zx,Zy,Zz,Z0,Z3,Jj,Jk,Jl,Jn,Jo,Jp,Jr,Jv,Jx,J1,K8,K9,Ua,Ub,Uc,Ud,Ue,Uf,Ug,Ui,Ul,Wf,Wg,Hh,Hk,Ho,Hp,Hq,Hr,Hs,Hu,Hv,H2,H3,Nl,Nm,No,Nx,Nz,Be,q30R0.eq_1,q30R1.eq_1,q30R2.eq_1,q30R3.eq_1,q30R4.eq_1,q30R5.eq_1,c_vt_ground.eq_1,h1,h2,e])
  · rw [if_neg h1, if_neg h2]
    have e : actG [actC 1 c] = [[.int .i64 1, .int .i32 c, .int .i32 0, .str ⟨#[]⟩, .data false 1 [] true, .data false 1 [] true]] := rfl
    (sym => simp [Qb,Qc,Qd,Qe,Qi,Qj,Qr,Qt,Qx,Qy,Qz,Q0,Q1,Q2,Xa,X8,Ya,Yj,Yk,Y1,Y5,Y7,Y9,Za,Zb,Zc,Ze,Zg,Zh,Zi,Zj,Zk,Zl,Zm,Zn,Zr,Zs,Zt,Zu,Zv,Zw,Zx,Zy,Zz,Z0,Z3,Jj,Jk,Jl,Jn,Jo,Jp,Jr,Jv,Jx,J1,K8,K9,Ua,Ub,Uc,Ud,Ue,Uf,Ug,Ui,Ul,Wf,Wg,Hh,Hk,Ho,Hp,Hq,Hr,Hs,Hu,Hv,H2,H3,Nl,Nm,No,Nx,Nz,Be,q30R0.eq_1,q30R1.eq_1,q30R2.eq_1,q30R3.eq_1,q30R4.eq_1,q30R5.eq_1,c_vt_ground.eq_1,h1,h2,e])
variable (o : ARow) (fl str told first void asked : Bool) (mark : Int) (s : ByteArray) (step pv tv : AV) (R : List ARow)
end Go.Proofs.Ytkkcblfoaldckaa
