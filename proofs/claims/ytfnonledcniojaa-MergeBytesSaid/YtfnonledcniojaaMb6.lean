/- MergeBytes: a round's body, by the machine, with n's box alone as a row. Conditions: as the statements say. -/
import Derived.Test.YtfnonledcniojaaMb3
set_option linter.unusedVariables false
set_option linter.unusedSimpArgs false
set_option linter.unusedSectionVars false
set_option maxRecDepth 20000
set_option maxHeartbeats 4000000
namespace Go.Proofs.Ytfnonledcniojaa
open Go
variable (G : Nat → Option (List AV)) (ws hs : List Int) (fw fh : Bool) (left turn : Int)
theorem body_go (n : Nat) (hn : n < ws.length) (hl : ws.length ≤ 100000) (he : hs.length = ws.length) (ht : ¬ (turn = 0 ∧ left ≤ ((n + 1 : Nat) : Int))) :
    aE G FT 1 rb_law28_MergeBytes_body ⟨[(3, .dptr [.int .i64 left]), (6, .dptr [.data false 1 (ints ws) fw]), (7, .dptr [.data false 1 (byt hs) fh]), (10, .dptr [.int .i64 turn]), (11, .ptr 0 0 0 0), (12, .int .i64 ws[n]), (13, .int .u8 (hs[n]'(by omega)))], [⟨1, 0, true, [[.int .i64 n]]⟩]⟩ =
      some (.normal, ⟨[(3, .dptr [.int .i64 left]), (6, .dptr [.data false 1 (ints ws) fw]), (7, .dptr [.data false 1 (byt hs) fh]), (10, .dptr [.int .i64 turn]), (11, .ptr 0 0 0 0), (96, .bool false)], [⟨1, 0, true, [[.int .i64 (((n + 1 : Nat) : Int))]]⟩]⟩) := by
  have il := ints_len ws
  have bl := byt_len hs
  have q1 : ¬ (ws.length : Int) ≤ n := by omega
  have q2 : (n : Int) < ws.length := by omega
  have q3 : (n : Int) < hs.length := by omega
  have a1 := ints_at hn
  have a2 : (byt hs)[n]? = some [.int .u8 (hs[n]'(by omega))] := by simp [byt, show n < hs.length by omega]
  have hw := wrap_nat (n := n) (by omega)
  have lk : ∀ k, look [] k = none := fun _ => rfl
  unfold rb_law28_MergeBytes_body
  by_cases h0 : turn = 0
  · have h1 : ¬ left ≤ ((n + 1 : Nat) : Int) := fun h => ht ⟨h0, h⟩
    (sym => simp [Qc,Qd,Qe,Qf,Qg,Qi,Qj,Qr,Qt,Qu,Q4,Q5,Xa,Xs,Xy,X5,X8,X9,Yd,Yh,Yr,Ys,Yt,Yy,Y9,Za,Zb,Zc,Zd,Ze,Zf,Zg,Zh,Zm,Zn,Zt,Zv,Zw,Zy,Z0,Z1,Z3,Ja,Jb,Jj,Jk,Jn,Jo,Jr,Jv,J3,Hh,Hk,Ni,Nk,Nl,Nm,No,Nw,Nx,Ba,Be,q12R0.eq_1,q12R1.eq_1,q12R2.eq_1,q12R3.eq_1,q12R4.eq_1,q12R5.eq_1,q12R6.eq_1,q12R7.eq_1,q12R8.eq_1,q12R9.eq_1,q12R10.eq_1,q12R11.eq_1,q12R13.eq_1,q12R14.eq_1,q12R16.eq_1,q12R17.eq_1,q12R15.eq_1,q12R12.eq_1,q12R18.eq_1,q12R19.eq_1,q12R21.eq_1,q12R22.eq_1,q12R23.eq_1,q12R24.eq_1,q12R25.eq_1,q12R26.eq_1,q12R27.eq_1,q12R28.eq_1,q12R29.eq_1,q12R30.eq_1,q12R31.eq_1,q12R32.eq_1,q12R20.eq_1,q12R33.eq_1,c_law28_MergeBytes.eq_1,il,bl,q1,q2,q3,a1,a2,hw,lk,h0,h1])
  · (sym => simp [Qc,Qd,Qe,Qf,Qg,Qi,Qj,Qr,Qt,Qu,Q4,Q5,Xa,Xs,Xy,X5,X8,X9,Yd,Yh,Yr,Ys,Yt,Yy,Y9,Za,Zb,Zc,Zd,Ze,Zf,Zg,Zh,Zm,Zn,Zt,Zv,Zw,Zy,Z0,Z1,Z3,Ja,Jb,Jj,Jk,Jn,Jo,Jr,Jv,J3,Hh,Hk,Ni,Nk,Nl,Nm,No,Nw,Nx,Ba,Be,q12R0.eq_1,q12R1.eq_1,q12R2.eq_1,q12R3.eq_1,q12R4.eq_1,q12R5.eq_1,q12R6.eq_1,q12R7.eq_1,q12R8.eq_1,q12R9.eq_1,q12R10.eq_1,q12R11.eq_1,q12R13.eq_1,q12R14.eq_1,q12R16.eq_1,q12R17.eq_1,q12R15.eq_1,q12R12.eq_1,q12R18.eq_1,q12R19.eq_1,q12R21.eq_1,q12R22.eq_1,q12R23.eq_1,q12R24.eq_1,q12R25.eq_1,q12R26.eq_1,q12R27.eq_1,q12R28.eq_1,q12R29.eq_1,q12R30.eq_1,q12R31.eq_1,q12R32.eq_1,q12R20.eq_1,q12R33.eq_1,c_law28_MergeBytes.eq_1,il,bl,q1,q2,q3,a1,a2,hw,lk,h0])
theorem body_stop (n : Nat) (hn : n < ws.length) (hl : ws.length ≤ 100000) (he : hs.length = ws.length) (h0 : turn = 0) (h1 : left ≤ ((n + 1 : Nat) : Int)) :
    aE G FT 1 rb_law28_MergeBytes_body ⟨[(3, .dptr [.int .i64 left]), (6, .dptr [.data false 1 (ints ws) fw]), (7, .dptr [.data false 1 (byt hs) fh]), (10, .dptr [.int .i64 turn]), (11, .ptr 0 0 0 0), (12, .int .i64 ws[n]), (13, .int .u8 (hs[n]'(by omega)))], [⟨1, 0, true, [[.int .i64 n]]⟩]⟩ =
      some (.exit 6, ⟨[(3, .dptr [.int .i64 left]), (6, .dptr [.data false 1 (ints ws) fw]), (7, .dptr [.data false 1 (byt hs) fh]), (10, .dptr [.int .i64 turn]), (11, .ptr 0 0 0 0), (96, .bool true)], [⟨1, 0, true, [[.int .i64 (((n + 1 : Nat) : Int))]]⟩]⟩) := by
  have il := ints_len ws
  have bl := byt_len hs
  have q1 : ¬ (ws.length : Int) ≤ n := by omega
  have q2 : (n : Int) < ws.length := by omega
  have q3 : (n : Int) < hs.length := by omega
  have a1 := ints_at hn
  have a2 : (byt hs)[n]? = some [.int .u8 (hs[n]'(by omega))] := by simp [byt, show n < hs.length by omega]
  have hw := wrap_nat (n := n) (by omega)
  have lk : ∀ k, look [] k = none := fun _ => rfl
  unfold rb_law28_MergeBytes_body
  (sym => simp [Qa,Qc,Qd,Qe,Qf,Qg,Qi,Qj,Qr,Qt,Qu,Q4,Q5,Xa,Xs,Xy,X5,X8,X9,Yd,Yh,Yr,Ys,Yt,Yy,Y9,Za,Zb,Zc,Zd,Ze,Zf,Zg,Zh,Zm,Zn,Zt,Zv,Zw,Zy,Z0,Z1,Z3,Ja,Jb,Jj,Jk,Jn,Jq,Jr,Jv,J3,Hh,Hk,Ni,Nk,Nl,Nm,No,Nw,Nx,Ba,Be,q12R0.eq_1,q12R1.eq_1,q12R2.eq_1,q12R3.eq_1,q12R4.eq_1,q12R5.eq_1,q12R6.eq_1,q12R7.eq_1,q12R8.eq_1,q12R9.eq_1,q12R10.eq_1,q12R11.eq_1,q12R13.eq_1,q12R14.eq_1,q12R16.eq_1,q12R17.eq_1,q12R15.eq_1,q12R12.eq_1,q12R18.eq_1,q12R19.eq_1,q12R21.eq_1,q12R22.eq_1,q12R23.eq_1,q12R24.eq_1,q12R25.eq_1,q12R26.eq_1,q12R27.eq_1,q12R28.eq_1,q12R29.eq_1,q12R30.eq_1,q12R31.eq_1,q12R32.eq_1,q12R20.eq_1,q12R33.eq_1,c_law28_MergeBytes.eq_1,il,bl,q1,q2,q3,a1,a2,hw,lk,h0,h1])
theorem body_bad (n : Nat) (m c : Int) (hl : ws.length ≤ 100000) (he : hs.length = ws.length) (hb : ∀ h : n < ws.length, ¬ (m = ws[n] ∧ c = hs[n]'(by omega))) :
    aE G FT 2 rb_law28_MergeBytes_body ⟨[(3, .dptr [.int .i64 left]), (4, .ptr 1 0 0 0), (6, .dptr [.data false 1 (ints ws) fw]), (7, .dptr [.data false 1 (byt hs) fh]), (10, .dptr [.int .i64 turn]), (11, .ptr 0 0 0 0), (12, .int .i64 m), (13, .int .u8 c)], [⟨1, 0, true, [[.int .i64 n]]⟩, ⟨1, 0, true, [[.bool false]]⟩]⟩ =
      some (.ret, ⟨[(4, .ptr 1 0 0 0)], [⟨1, 0, true, [[.int .i64 n]]⟩, ⟨1, 0, true, [[.bool false]]⟩]⟩) := by
  have il := ints_len ws
  have bl := byt_len hs
  have lk : ∀ k, look [] k = none := fun _ => rfl
  unfold rb_law28_MergeBytes_body
  by_cases hn : n < ws.length
  · have q1 : ¬ (ws.length : Int) ≤ n := by omega
    have q2 : (n : Int) < ws.length := by omega
    have q3 : (n : Int) < hs.length := by omega
    have a1 := ints_at hn
    have a2 : (byt hs)[n]? = some [.int .u8 (hs[n]'(by omega))] := by simp [byt, show n < hs.length by omega]
    by_cases hm : m = ws[n]
    · have hc : ¬ c = hs[n]'(by omega) := fun h => hb hn ⟨hm, h⟩
      (sym => simp [Qb,Qd,Qe,Qf,Qg,Qi,Qj,Qr,Qt,Qu,Q4,Q5,Xa,Xs,Xy,X9,Yd,Yh,Yr,Ys,Yt,Yy,Y9,Za,Zb,Zc,Zd,Ze,Zf,Zg,Zh,Zm,Zn,Zt,Zv,Zw,Zy,Z0,Z1,Z3,Jb,Jj,Jk,Jl,Jn,Jp,Jr,Jv,J4,Hh,Hi,Hk,Hl,Ni,Nk,Nl,Nm,No,Nw,Nx,Be,q12R0.eq_1,q12R1.eq_1,q12R2.eq_1,q12R3.eq_1,q12R4.eq_1,q12R5.eq_1,q12R6.eq_1,q12R7.eq_1,q12R8.eq_1,q12R9.eq_1,q12R10.eq_1,q12R11.eq_1,q12R13.eq_1,q12R14.eq_1,q12R16.eq_1,q12R17.eq_1,q12R15.eq_1,q12R12.eq_1,q12R18.eq_1,q12R19.eq_1,q12R21.eq_1,q12R22.eq_1,q12R23.eq_1,q12R24.eq_1,q12R25.eq_1,q12R26.eq_1,q12R27.eq_1,q12R28.eq_1,q12R29.eq_1,q12R30.eq_1,q12R31.eq_1,q12R32.eq_1,q12R20.eq_1,q12R33.eq_1,c_law28_MergeBytes.eq_1,il,bl,q1,q2,q3,a1,a2,lk,hm,hc])
    · (sym => simp [Qb,Qd,Qe,Qf,Qg,Qi,Qj,Qr,Qt,Qu,Q4,Q5,Xa,Xs,Xy,X9,Yd,Yh,Yr,Ys,Yt,Yy,Y9,Za,Zb,Zc,Zd,Ze,Zf,Zg,Zh,Zm,Zn,Zt,Zv,Zw,Zy,Z0,Z1,Z3,Jb,Jj,Jk,Jl,Jn,Jp,Jr,Jv,J4,Hh,Hi,Hk,Hl,Ni,Nk,Nl,Nm,No,Nw,Nx,Be,q12R0.eq_1,q12R1.eq_1,q12R2.eq_1,q12R3.eq_1,q12R4.eq_1,q12R5.eq_1,q12R6.eq_1,q12R7.eq_1,q12R8.eq_1,q12R9.eq_1,q12R10.eq_1,q12R11.eq_1,q12R13.eq_1,q12R14.eq_1,q12R16.eq_1,q12R17.eq_1,q12R15.eq_1,q12R12.eq_1,q12R18.eq_1,q12R19.eq_1,q12R21.eq_1,q12R22.eq_1,q12R23.eq_1,q12R24.eq_1,q12R25.eq_1,q12R26.eq_1,q12R27.eq_1,q12R28.eq_1,q12R29.eq_1,q12R30.eq_1,q12R31.eq_1,q12R32.eq_1,q12R20.eq_1,q12R33.eq_1,c_law28_MergeBytes.eq_1,il,bl,q1,q2,q3,a1,a2,lk,hm])
  · have q1 : (ws.length : Int) ≤ n := by omega
    (sym => simp [Qb,Qd,Qe,Qf,Qg,Qi,Qj,Qr,Qt,Qu,Q4,Q5,Xa,Xs,Xy,X9,Yd,Yh,Yr,Ys,Yt,Yy,Y9,Za,Zb,Zc,Zd,Ze,Zf,Zg,Zh,Zm,Zn,Zt,Zv,Zw,Zy,Z0,Z1,Z3,Jb,Jj,Jk,Jl,Jn,Jp,Jr,Jv,J4,Hh,Hi,Hk,Hl,Ni,Nk,Nl,Nm,No,Nw,Nx,Be,q12R0.eq_1,q12R1.eq_1,q12R2.eq_1,q12R3.eq_1,q12R4.eq_1,q12R5.eq_1,q12R6.eq_1,q12R7.eq_1,q12R8.eq_1,q12R9.eq_1,q12R10.eq_1,q12R11.eq_1,q12R13.eq_1,q12R14.eq_1,q12R16.eq_1,q12R17.eq_1,q12R15.eq_1,q12R12.eq_1,q12R18.eq_1,q12R19.eq_1,q12R21.eq_1,q12R22.eq_1,q12R23.eq_1,q12R24.eq_1,q12R25.eq_1,q12R26.eq_1,q12R27.eq_1,q12R28.eq_1,q12R29.eq_1,q12R30.eq_1,q12R31.eq_1,q12R32.eq_1,q12R20.eq_1,q12R33.eq_1,c_law28_MergeBytes.eq_1,il,bl,q1,lk])
end Go.Proofs.Ytfnonledcniojaa
