/- Sessions: with refused; Join. Conditions: as each statement says. -/
import Derived.Test.YthcnhibjddomdaaSe9
set_option linter.unusedVariables false
set_option linter.unusedSimpArgs false
set_option linter.unusedSectionVars false
set_option maxRecDepth 20000
set_option maxHeartbeats 8000000
namespace Go.Proofs.Ythcnhibjddomdaa
open Go
variable (G : Nat → Option (List AV))
/-- The empty session. -/
def zS : Ses := ⟨[], 0, [], [], fun _ => (0, 0), 0, 0, fun _ => 0, false, false, false⟩
theorem withE_P (s : Ses) (L : List (List AV)) (lf : Bool) (e : Int) (he : ¬ e = 0) : aP G FT n_session_with [.agg (sC s), .data false 2 L lf, .int .i64 e] = some (.tup [.agg (sC zS), .int .i64 e]) := by
  have a1 := sC_len s
  have a2 := sC_st s
  have z : sC zS = (.data false 2 [] false :: .int .i64 0 :: .data false 1 [] false :: .data false 3 [] false :: .int .i64 0 :: .int .i64 0 :: .int .i64 0 :: .int .i64 0 :: .int .i64 0 :: .int .i64 0 :: .int .i64 0 :: .int .i64 0 :: .int .i64 0 :: .int .i64 0 :: .int .i64 0 :: .int .i64 0 :: .int .i64 0 :: .int .i64 0 :: .int .i64 0 :: .int .i64 0 :: .int .i64 0 :: .int .i64 0 :: .int .i64 0 :: .int .i64 0 :: .int .i64 0 :: .int .i64 0 :: .int .i64 0 :: .int .i64 0 :: .int .i64 0 :: .int .i64 0 :: .int .i64 0 :: .int .i64 0 :: .int .i64 0 :: []) := rfl
  rw [z]
  unfold aP
  rw [run_session_with]
  (sym => simp [Qb,Qd,Qe,Qi,Qj,Qr,Qt,Qv,Qw,Qx,Q1,Q5,Xa,X9,Yj,Yr,Yu,Y1,Y6,Y7,Y8,Y9,Za,Zb,Zc,Zd,Ze,Zg,Zh,Zi,Zj,Zk,Zl,Zm,Zn,Zr,Zs,Zt,Zu,Zv,Zw,Zy,Z0,Z1,Jj,Jk,Jl,Jr,Jv,Jx,J1,J2,K8,Ue,Uf,Ug,Ul,Wg,Wh,Wi,Wj,Wp,Wq,Hh,Hi,Hk,Hl,Ho,Hp,Hq,Hr,Hs,Ht,Hu,Hv,Hw,Nm,No,Nx,N0,Be,q51R0.eq_1,q51R1.eq_1,q51R2.eq_1,q51R3.eq_1,q51R4.eq_1,q51R5.eq_1,q51R6.eq_1,q51R7.eq_1,q51R8.eq_1,q51R9.eq_1,q51R10.eq_1,q51R11.eq_1,q51R12.eq_1,q51R13.eq_1,c_session_with.eq_1,he,a1,a2])
end Go.Proofs.Ythcnhibjddomdaa
