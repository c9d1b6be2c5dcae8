/- The document's parser: Put. Conditions: none. -/
import Derived.Test.YtkkcblfoaldckaaVr8
set_option linter.unusedVariables false
set_option linter.unusedSimpArgs false
set_option linter.unusedSectionVars false
set_option maxRecDepth 20000
set_option maxHeartbeats 4000000
namespace Go.Proofs.Ytkkcblfoaldckaa
open Go
variable (G : Nat → Option (List AV)) (g : Nat) (es : List (List AV)) (fl : Bool)
theorem app_set1 (R : List ARow) (x y z : ARow) : (R ++ [x] ++ [y]).set R.length z = R ++ [z] ++ [y] := by simp
variable (hh : List ARow)
theorem rput_1 (c : Int) (hc : ¬ (128 ≤ pointT c ∧ pointT c < 160)) (v u : AV) (hx hy : List ARow) (he : aR G FT n_ref11_Parser_one [.ptr 0 0 0 0, .int .i32 (pointT c)] hh = some (v, hx)) (hm : amelt hx v = some (u, hy)) :
    aR G FT n_ref11_Parser_Put [.ptr 0 0 0 0, .int .i32 c] hh = some (u, hy) := by
  rw [run_ref11_Parser_Put]
  obtain ⟨⟨u', ids⟩, m1, m2⟩ := Option.map_eq_some_iff.1 hm
  simp only [Prod.mk.injEq] at m2
  obtain ⟨rfl, m2⟩ := m2
  by_cases h1 : c < 0
  · have e : pointT c = 65533 := by unfold pointT; rw [if_pos (.inl h1)]
    rw [e] at he
    (sym => simp [Qb,Qc,Qd,Qe,Qf,Qg,Qh,Qi,Qj,Qm,Qn,Qo,Qr,Qt,Qu,Xa,Ya,Yb,Yc,Yd,Y1,Y5,Y7,Y9,Za,Zb,Zc,Ze,Zg,Zh,Zi,Zj,Zk,Zl,Zq,Zr,Zs,Zt,Zu,Zv,Zw,Z3,Ja,Jb,Jj,Jk,Jr,Jv,Jx,Nl,Nm,Nw,Nx,Be,Bj,Bo,Bw,BB,q10R0.eq_1,q10R1.eq_1,q10R2.eq_1,q10R3.eq_1,q10R4.eq_1,q10R5.eq_1,q10R6.eq_1,q10R7.eq_1,c_ref11_Parser_Put.eq_1,h1,he,m1,m2])
  by_cases h2 : 1114111 < c
  · have e : pointT c = 65533 := by unfold pointT; rw [if_pos (.inr (.inl h2))]
    rw [e] at he
    (sym => simp [Qb,Qc,Qd,Qe,Qf,Qg,Qh,Qi,Qj,Qm,Qn,Qo,Qr,Qt,Qu,Xa,Ya,Yb,Yc,Yd,Y1,Y5,Y7,Y9,Za,Zb,Zc,Ze,Zg,Zh,Zi,Zj,Zk,Zl,Zq,Zr,Zs,Zt,Zu,Zv,Zw,Z3,Ja,Jb,Jj,Jk,Jr,Jv,Jx,Nl,Nm,Nw,Nx,Be,Bj,Bo,Bw,BB,q10R0.eq_1,q10R1.eq_1,q10R2.eq_1,q10R3.eq_1,q10R4.eq_1,q10R5.eq_1,q10R6.eq_1,q10R7.eq_1,c_ref11_Parser_Put.eq_1,h1,h2,he,m1,m2])
  by_cases h3 : 55296 ≤ c
  · by_cases h4 : c ≤ 57343
    · have e : pointT c = 65533 := by unfold pointT; rw [if_pos (.inr (.inr ⟨h3, h4⟩))]
      rw [e] at he
      (sym => simp [Qb,Qc,Qd,Qe,Qf,Qg,Qh,Qi,Qj,Qm,Qn,Qo,Qr,Qt,Qu,Xa,Ya,Yb,Yc,Yd,Y1,Y5,Y7,Y9,Za,Zb,Zc,Ze,Zg,Zh,Zi,Zj,Zk,Zl,Zq,Zr,Zs,Zt,Zu,Zv,Zw,Z3,Ja,Jb,Jj,Jk,Jr,Jv,Jx,Nl,Nm,Nw,Nx,Be,Bj,Bo,Bw,BB,q10R0.eq_1,q10R1.eq_1,q10R2.eq_1,q10R3.eq_1,q10R4.eq_1,q10R5.eq_1,q10R6.eq_1,q10R7.eq_1,c_ref11_Parser_Put.eq_1,h1,h2,h3,h4,he,m1,m2])
    · have e : pointT c = c := by unfold pointT; rw [if_neg (by omega)]
      rw [e] at he hc
      have q1 : 128 ≤ c := by omega
      have q2 : ¬ c ≤ 159 := by omega
      (sym => simp [Qb,Qc,Qd,Qe,Qf,Qg,Qh,Qi,Qj,Qm,Qn,Qo,Qr,Qt,Qu,Xa,Ya,Yb,Yc,Yd,Y1,Y5,Y7,Y9,Za,Zb,Zc,Ze,Zg,Zh,Zi,Zj,Zk,Zl,Zq,Zr,Zs,Zt,Zu,Zv,Zw,Z3,Ja,Jb,Jj,Jk,Jr,Jv,Jx,Nl,Nm,Nw,Nx,Be,Bj,Bo,Bw,BB,q10R0.eq_1,q10R1.eq_1,q10R2.eq_1,q10R3.eq_1,q10R4.eq_1,q10R5.eq_1,q10R6.eq_1,q10R7.eq_1,c_ref11_Parser_Put.eq_1,h1,h2,h3,h4,q1,q2,he,m1,m2])
  · have e : pointT c = c := by unfold pointT; rw [if_neg (by omega)]
    rw [e] at he hc
    by_cases q1 : 128 ≤ c
    · have q2 : ¬ c ≤ 159 := by omega
      (sym => simp [Qb,Qc,Qd,Qe,Qf,Qg,Qh,Qi,Qj,Qm,Qn,Qo,Qr,Qt,Qu,Xa,Ya,Yb,Yc,Yd,Y1,Y5,Y7,Y9,Za,Zb,Zc,Ze,Zg,Zh,Zi,Zj,Zk,Zl,Zq,Zr,Zs,Zt,Zu,Zv,Zw,Z3,Ja,Jb,Jj,Jk,Jr,Jv,Jx,Nl,Nm,Nw,Nx,Be,Bj,Bo,Bw,BB,q10R0.eq_1,q10R1.eq_1,q10R2.eq_1,q10R3.eq_1,q10R4.eq_1,q10R5.eq_1,q10R6.eq_1,q10R7.eq_1,c_ref11_Parser_Put.eq_1,h1,h2,h3,q1,q2,he,m1,m2])
    · (sym => simp [Qb,Qc,Qd,Qe,Qf,Qg,Qh,Qi,Qj,Qm,Qn,Qo,Qr,Qt,Qu,Xa,Ya,Yb,Yc,Yd,Y1,Y5,Y7,Y9,Za,Zb,Zc,Ze,Zg,Zh,Zi,Zj,Zk,Zl,Zq,Zr,Zs,Zt,Zu,Zv,Zw,Z3,Ja,Jb,Jj,Jk,Jr,Jv,Jx,Nl,Nm,Nw,Nx,Be,Bj,Bo,Bw,BB,q10R0.eq_1,q10R1.eq_1,q10R2.eq_1,q10R3.eq_1,q10R4.eq_1,q10R5.eq_1,q10R6.eq_1,q10R7.eq_1,c_ref11_Parser_Put.eq_1,h1,h2,h3,q1,he,m1,m2])
end Go.Proofs.Ytkkcblfoaldckaa
