/- What Put tells, raw. Conditions: none. -/
import Derived.Test.YtkkcblfoaldckaaVw1
set_option linter.unusedVariables false
set_option linter.unusedSimpArgs false
set_option linter.unusedSectionVars false
set_option maxRecDepth 20000
set_option maxHeartbeats 4000000
namespace Go.Proofs.Ytkkcblfoaldckaa
open Go
section
variable (G : Nat → Option (List AV)) (p a : ARow) (fl : Bool) (R hh : List ARow)
theorem put_1w (c : Int) (hc : ¬ (128 ≤ pointT c ∧ pointT c < 160)) (v : AV) (hx : List ARow) (he : aR G FT n_vt_Parser_one [.ptr 0 0 0 0, .int .i32 (pointT c)] hh = some (v, hx)) :
    aR G FT n_vt_Parser_Put [.ptr 0 0 0 0, .int .i32 c] hh = some (v, hx) := by
  rw [run_vt_Parser_Put]
  have hp := point_P G c
  by_cases h1 : 128 ≤ pointT c
  · have h2 : ¬ pointT c < 160 := fun h => hc ⟨h1, h⟩
    (sym => simp [Qb,Qc,Qd,Qe,Qf,Qg,Qi,Qj,Qm,Qn,Qo,Qr,Qt,Qu,Xa,Xc,Ya,Yd,Y1,Y5,Y7,Y9,Za,Zb,Zc,Ze,Zg,Zh,Zi,Zj,Zk,Zl,Zo,Zq,Zr,Zs,Zt,Zu,Zv,Zw,Z3,Ja,Jh,Jj,Jk,Jr,Jv,Jx,Kr,V6,Wd,We,Nl,Nm,Be,q24R0.eq_1,q24R1.eq_1,q24R2.eq_1,q24R3.eq_1,q24R4.eq_1,q24R5.eq_1,q24R6.eq_1,c_vt_Parser_Put.eq_1,hp,h1,h2,he])
  · (sym => simp [Qb,Qc,Qd,Qe,Qf,Qg,Qi,Qj,Qm,Qn,Qo,Qr,Qt,Qu,Xa,Xc,Ya,Yd,Y1,Y5,Y7,Y9,Za,Zb,Zc,Ze,Zg,Zh,Zi,Zj,Zk,Zl,Zo,Zq,Zr,Zs,Zt,Zu,Zv,Zw,Z3,Ja,Jh,Jj,Jk,Jr,Jv,Jx,Kr,V6,Wd,We,Nl,Nm,Be,q24R0.eq_1,q24R1.eq_1,q24R2.eq_1,q24R3.eq_1,q24R4.eq_1,q24R5.eq_1,q24R6.eq_1,c_vt_Parser_Put.eq_1,hp,h1,he])
abbrev escRow (fl : Bool) : ARow := ⟨10, 0, fl, [[.fn (.func n_vt_escape) [] [], .bool false, .bool false, .bool false, .bool false, .bool false, .int .i32 0, .str ⟨#[]⟩, .data false 1 [] true, .data false 1 [] true]]⟩
abbrev escL (d : Int) : List AV := [.int .i64 3, .int .i32 d, .int .i32 0, .str ⟨#[]⟩, .data false 1 [] true, .data false 1 [] true]
abbrev oscL (t n : Nat) : List AV := [.int .i64 5, .int .i32 0, .int .i32 0, .str ⟨#[]⟩, .data false 1 [] true, .own t 0 0 n n]
theorem put_qw (c : Int) (h1 : 128 ≤ pointT c) (h2 : pointT c < 160) (he1 : aR G FT n_vt_Parser_one [.ptr 0 0 0 0, .int .i32 27] hh = some (.data false 6 [] true, escRow fl :: R))
    (he2 : aR G FT n_vt_Parser_one [.ptr 0 0 0 0, .int .i32 (pointT c - 64)] (escRow fl :: R) = some (.data false 6 [] true, p :: R)) :
    aR G FT n_vt_Parser_Put [.ptr 0 0 0 0, .int .i32 c] hh = some (.own (R.length + 1) 0 0 0 0, p :: (R ++ [⟨6, 0, true, []⟩])) := by
  rw [run_vt_Parser_Put]
  have hp := point_P G c
  have w := i32_in (n := pointT c - 64) (by omega) (by omega)
  have e1 := app_at R
  have e2 := app_set R
  (sym => simp [Qb,Qc,Qd,Qe,Qf,Qg,Qi,Qj,Qm,Qn,Qo,Qr,Qt,Qu,Xa,Xc,X0,X6,Ya,Yd,Y1,Y3,Y5,Y7,Y9,Za,Zb,Zc,Ze,Zg,Zh,Zi,Zj,Zk,Zl,Zm,Zn,Zo,Zq,Zr,Zs,Zt,Zu,Zv,Zw,Z3,Ja,Jh,Jj,Jk,Jl,Jr,Jv,Jx,Kr,Kw,Kx,V6,Wd,We,Hu,Nl,Nn,Be,q24R0.eq_1,q24R1.eq_1,q24R2.eq_1,q24R3.eq_1,q24R4.eq_1,q24R5.eq_1,q24R6.eq_1,c_vt_Parser_Put.eq_1,hp,h1,h2,w,he1,he2,e1,e2])
theorem put_tw (c : Int) (h1 : 128 ≤ pointT c) (h2 : pointT c < 160) (d : Int) (he1 : aR G FT n_vt_Parser_one [.ptr 0 0 0 0, .int .i32 27] hh = some (.data false 6 [] true, escRow fl :: R))
    (he2 : aR G FT n_vt_Parser_one [.ptr 0 0 0 0, .int .i32 (pointT c - 64)] (escRow fl :: R) = some (.own (R.length + 1 + 1) 0 0 1 1, p :: (R ++ [a] ++ [⟨6, 0, true, [escL d]⟩]))) :
    aR G FT n_vt_Parser_Put [.ptr 0 0 0 0, .int .i32 c] hh = some (.own (R.length + 1 + 1 + 1) 0 0 1 1, p :: (R ++ [a] ++ [⟨6, 0, true, [escL d]⟩] ++ [⟨6, 0, true, [escL d]⟩])) := by
  rw [run_vt_Parser_Put]
  have hp := point_P G c
  have w := i32_in (n := pointT c - 64) (by omega) (by omega)
  have e1 := app_at2 R
  have e2 := app_set R
  have e3 : ∀ x y z : ARow, (R ++ [x] ++ [y] ++ [z])[R.length + 1 + 1]? = some z := fun x y z => by rw [List.getElem?_append_right (by simp)]; simp
  have e4 : ∀ x y z z' : ARow, (R ++ [x] ++ [y] ++ [z]).set (R.length + 1 + 1) z' = R ++ [x] ++ [y] ++ [z'] := fun x y z z' => by rw [List.set_append_right _ _ (by simp)]; simp
  have e5 : ∀ x y : ARow, (R ++ [x] ++ [y]).length = R.length + 1 + 1 := fun x y => by simp
  (sym => simp [Qb,Qc,Qd,Qe,Qf,Qg,Qi,Qj,Qm,Qn,Qo,Qr,Qt,Qu,Xa,Xc,X0,X6,Ya,Yd,Y1,Y2,Y5,Y7,Y9,Za,Zb,Zc,Ze,Zg,Zh,Zi,Zj,Zk,Zl,Zm,Zn,Zo,Zq,Zr,Zs,Zt,Zu,Zv,Zw,Zx,Zy,Zz,Z0,Z3,Ja,Jh,Jj,Jk,Jl,Jr,Jv,Jx,Kr,Kw,Kx,V6,Wd,We,Hi,Ho,Hq,Hs,Hu,Hx,Nl,Nn,Nz,Be,q24R0.eq_1,q24R1.eq_1,q24R2.eq_1,q24R3.eq_1,q24R4.eq_1,q24R5.eq_1,q24R6.eq_1,c_vt_Parser_Put.eq_1,hp,h1,h2,w,he1,he2,e1,e2,e3,e4,e5])
theorem put_q0w (c : Int) (h1 : 128 ≤ pointT c) (h2 : pointT c < 160) (he1 : aR G FT n_vt_Parser_one [.ptr 0 0 0 0, .int .i32 27] hh = some (.own 2 0 0 1 1, escRow fl :: [⟨1, 0, true, []⟩, ⟨6, 0, false, [oscL 1 0]⟩]))
    (he2 : aR G FT n_vt_Parser_one [.ptr 0 0 0 0, .int .i32 (pointT c - 64)] (escRow fl :: [⟨1, 0, true, []⟩, ⟨6, 0, false, [oscL 1 0]⟩]) = some (.data false 6 [] true, p :: [⟨1, 0, true, []⟩, ⟨6, 0, false, [oscL 1 0]⟩])) :
    aR G FT n_vt_Parser_Put [.ptr 0 0 0 0, .int .i32 c] hh = some (.own 2 1 0 1 1, p :: [⟨1, 0, true, []⟩, ⟨6, 1, false, [oscL 1 0]⟩]) := by
  rw [run_vt_Parser_Put]
  have hp := point_P G c
  have w := i32_in (n := pointT c - 64) (by omega) (by omega)
  (sym => simp [Qb,Qc,Qd,Qe,Qf,Qg,Qi,Qj,Qm,Qn,Qo,Qr,Qt,Qu,Xa,Xc,X0,X6,Ya,Yd,Y1,Y3,Y5,Y7,Y9,Za,Zb,Zc,Ze,Zg,Zh,Zi,Zj,Zk,Zl,Zm,Zn,Zo,Zq,Zr,Zs,Zt,Zu,Zv,Zw,Z3,Ja,Jh,Jj,Jk,Jl,Jr,Jv,Jx,Kr,Kv,Kx,V6,Wd,We,Hh,Hi,Hk,Hl,Ho,Hq,Hs,Hw,Nl,No,Nz,N2,Be,Bg,q24R0.eq_1,q24R1.eq_1,q24R2.eq_1,q24R3.eq_1,q24R4.eq_1,q24R5.eq_1,q24R6.eq_1,c_vt_Parser_Put.eq_1,hp,h1,h2,w,he1,he2])
theorem put_t0w (c : Int) (h1 : 128 ≤ pointT c) (h2 : pointT c < 160) (b : ARow) (d : Int) (he1 : aR G FT n_vt_Parser_one [.ptr 0 0 0 0, .int .i32 27] hh = some (.own 2 0 0 1 1, escRow fl :: [⟨1, 0, true, []⟩, ⟨6, 0, false, [oscL 1 0]⟩]))
    (he2 : aR G FT n_vt_Parser_one [.ptr 0 0 0 0, .int .i32 (pointT c - 64)] (escRow fl :: [⟨1, 0, true, []⟩, ⟨6, 0, false, [oscL 1 0]⟩]) = some (.own 4 0 0 1 1, p :: [⟨1, 0, true, []⟩, ⟨6, 0, false, [oscL 1 0]⟩, b, ⟨6, 0, true, [escL d]⟩])) :
    aR G FT n_vt_Parser_Put [.ptr 0 0 0 0, .int .i32 c] hh = some (.own 2 1 0 2 2, p :: [⟨1, 0, true, []⟩, ⟨6, 1, false, [oscL 1 0, escL d]⟩, b, ⟨6, 0, true, [escL d]⟩]) := by
  rw [run_vt_Parser_Put]
  have hp := point_P G c
  have w := i32_in (n := pointT c - 64) (by omega) (by omega)
  (sym => simp [Qb,Qc,Qd,Qe,Qf,Qg,Qi,Qj,Qm,Qn,Qo,Qr,Qt,Qu,Xa,Xc,X0,X6,Ya,Yd,Y1,Y2,Y5,Y7,Y9,Za,Zb,Zc,Ze,Zg,Zh,Zi,Zj,Zk,Zl,Zm,Zn,Zo,Zq,Zr,Zs,Zt,Zu,Zv,Zw,Zx,Zy,Zz,Z0,Z3,Ja,Jh,Jj,Jk,Jl,Jr,Jv,Jx,Kr,Kv,Kx,V6,Wd,We,Hh,Hi,Hk,Hl,Ho,Hq,Hs,Hu,Hv,Nl,No,Nz,N2,Be,Bg,q24R0.eq_1,q24R1.eq_1,q24R2.eq_1,q24R3.eq_1,q24R4.eq_1,q24R5.eq_1,q24R6.eq_1,c_vt_Parser_Put.eq_1,hp,h1,h2,w,he1,he2])
theorem put_q1w (c : Int) (h1 : 128 ≤ pointT c) (h2 : pointT c < 160) (ts : List Int) (he1 : aR G FT n_vt_Parser_one [.ptr 0 0 0 0, .int .i32 27] hh = some (.own 3 0 0 1 1, escRow fl :: [a, ⟨1, 0, true, rn ts⟩, ⟨6, 0, false, [oscL 2 ts.length]⟩]))
    (he2 : aR G FT n_vt_Parser_one [.ptr 0 0 0 0, .int .i32 (pointT c - 64)] (escRow fl :: [a, ⟨1, 0, true, rn ts⟩, ⟨6, 0, false, [oscL 2 ts.length]⟩]) = some (.data false 6 [] true, p :: [a, ⟨1, 0, true, rn ts⟩, ⟨6, 0, false, [oscL 2 ts.length]⟩])) :
    aR G FT n_vt_Parser_Put [.ptr 0 0 0 0, .int .i32 c] hh = some (.own 3 1 0 1 1, p :: [a, ⟨1, 0, true, rn ts⟩, ⟨6, 1, false, [oscL 2 ts.length]⟩]) := by
  rw [run_vt_Parser_Put]
  have hp := point_P G c
  have w := i32_in (n := pointT c - 64) (by omega) (by omega)
  have l1 := rn_len ts
  have l2 := rn_take ts
  (sym => simp [Qb,Qc,Qd,Qe,Qf,Qg,Qi,Qj,Qm,Qn,Qo,Qr,Qt,Qu,Xa,Xc,X0,X6,Ya,Yd,Y1,Y3,Y5,Y7,Y9,Za,Zb,Zc,Ze,Zg,Zh,Zi,Zj,Zk,Zl,Zm,Zn,Zo,Zq,Zr,Zs,Zt,Zu,Zv,Zw,Z3,Ja,Jh,Jj,Jk,Jl,Jr,Jv,Jx,Kr,Kv,Kx,V6,Wd,We,Hh,Hi,Hk,Hl,Ho,Hq,Hs,Hw,Nl,No,Nz,N2,Be,Bg,q24R0.eq_1,q24R1.eq_1,q24R2.eq_1,q24R3.eq_1,q24R4.eq_1,q24R5.eq_1,q24R6.eq_1,c_vt_Parser_Put.eq_1,hp,h1,h2,w,he1,he2,l1,l2])
theorem put_t1w (c : Int) (h1 : 128 ≤ pointT c) (h2 : pointT c < 160) (ts : List Int) (b : ARow) (d : Int) (he1 : aR G FT n_vt_Parser_one [.ptr 0 0 0 0, .int .i32 27] hh = some (.own 3 0 0 1 1, escRow fl :: [a, ⟨1, 0, true, rn ts⟩, ⟨6, 0, false, [oscL 2 ts.length]⟩]))
    (he2 : aR G FT n_vt_Parser_one [.ptr 0 0 0 0, .int .i32 (pointT c - 64)] (escRow fl :: [a, ⟨1, 0, true, rn ts⟩, ⟨6, 0, false, [oscL 2 ts.length]⟩]) = some (.own 5 0 0 1 1, p :: [a, ⟨1, 0, true, rn ts⟩, ⟨6, 0, false, [oscL 2 ts.length]⟩, b, ⟨6, 0, true, [escL d]⟩])) :
    aR G FT n_vt_Parser_Put [.ptr 0 0 0 0, .int .i32 c] hh = some (.own 3 1 0 2 2, p :: [a, ⟨1, 0, true, rn ts⟩, ⟨6, 1, false, [oscL 2 ts.length, escL d]⟩, b, ⟨6, 0, true, [escL d]⟩]) := by
  rw [run_vt_Parser_Put]
  have hp := point_P G c
  have w := i32_in (n := pointT c - 64) (by omega) (by omega)
  have l1 := rn_len ts
  have l2 := rn_take ts
  (sym => simp [Qb,Qc,Qd,Qe,Qf,Qg,Qi,Qj,Qm,Qn,Qo,Qr,Qt,Qu,Xa,Xc,X0,X6,Ya,Yd,Y1,Y2,Y5,Y7,Y9,Za,Zb,Zc,Ze,Zg,Zh,Zi,Zj,Zk,Zl,Zm,Zn,Zo,Zq,Zr,Zs,Zt,Zu,Zv,Zw,Zx,Zy,Zz,Z0,Z3,Ja,Jh,Jj,Jk,Jl,Jr,Jv,Jx,Kr,Kv,Kx,V6,Wd,We,Hh,Hi,Hk,Hl,Ho,Hq,Hs,Hu,Hv,Nl,No,Nz,N2,Be,Bg,q24R0.eq_1,q24R1.eq_1,q24R2.eq_1,q24R3.eq_1,q24R4.eq_1,q24R5.eq_1,q24R6.eq_1,c_vt_Parser_Put.eq_1,hp,h1,h2,w,he1,he2,l1,l2])
end
theorem esc_has (c : Int) : vtHas (vtEsc false ⟨#[]⟩ c).2 = false := by
  unfold vtEsc
  repeat' split
  all_goals rfl
section
variable (G : Nat → Option (List AV)) (o : ARow) (fl : Bool)
theorem put_okw (s : VS) (ok : vtOk2 s) (c : Int) : OneOkw G o (canonRb s fl) (aR G FT n_vt_Parser_Put [.ptr 0 0 0 0, .int .i32 c] (canonRb s fl)) (vtPut s c) := by
  unfold vtPut
  by_cases hc : 128 ≤ pointT c ∧ pointT c < 160
  · rw [if_pos hc]
    obtain ⟨h1, h2⟩ := hc
    have hs := esc_has (pointT c - 64)
    have bare1 : ∀ d, Bare [escA d ⟨#[]⟩] := fun d a h => by simp at h; subst h; exact ⟨rfl, rfl⟩
    have quiet : ∀ (R : List ARow) (fl' : Bool), vtEnd s = [] → (canonRb s fl).length = R.length + 1 → aR G FT n_vt_Parser_one [.ptr 0 0 0 0, .int .i32 27] (canonRb s fl) = some (.data false 6 [] true, canonRb (.esc false ⟨#[]⟩) fl' ++ R) →
        OneOkw G o (canonRb s fl) (aR G FT n_vt_Parser_Put [.ptr 0 0 0 0, .int .i32 c] (canonRb s fl)) (vtEnd s ++ (vtEsc false ⟨#[]⟩ (pointT c - 64)).1, (vtEsc false ⟨#[]⟩ (pointT c - 64)).2) := by
      intro R fl' he0 hl he1
      rw [he0]
      unfold OneOkw
      rw [hl]
      rcases secondb G (pointT c - 64) (by omega) (by omega) R o fl' with ⟨p, q1, q2, q3⟩ | ⟨p, a, q1, q2, q3⟩
      · rw [q2]
        refine ⟨_, _, put_qw G p fl' R _ c h1 h2 he1 q1, .inr ⟨.plain [] true, R.length + 1, 0, 0, 0, rfl, ?_, fun e => (by cases e), by omega, Nat.le_refl _, rfl, fun a h => (by cases h), hs⟩, q3 _⟩
        simp [RZ.f, actG]
      · rw [q2]
        refine ⟨_, _, put_tw G p a fl' R _ c h1 h2 _ he1 q1, .inr ⟨.plain [escA (pointT c - 64) ⟨#[]⟩] true, R.length + 1 + 1 + 1, 0, 0, 0, rfl, ?_, fun e => (by cases e), by omega, by omega, rfl, bare1 _, hs⟩, q3 _⟩
        simp [RZ.f, actG, Act'.g, escA, ints, rn]
    cases s with
    | nil => exact quiet [] fl rfl rfl (one_nil27b G o fl [] _ rfl)
    | esc v i => exact quiet [] fl rfl rfl (one_s27b G o fl false false v false 0 i _ _ [] _ _ rfl)
    | seq0 f v m i => exact quiet [] fl rfl rfl (one_s27b G o fl false f v false m i _ _ [] _ _ rfl)
    | seq1 v m i q x => exact quiet [_] false rfl rfl (one_s27b G o false false false v true m i _ _ [_] _ _ rfl)
    | txt0 t =>
      cases t with
      | false => exact quiet [] fl rfl rfl (one_str27b G o fl false false false false 0 _ _ _ [] _ _ rfl _ _ (end_no_toldb G o fl false false false 0 _ _ _ _ []))
      | true =>
        have he1 := one_str27b G o fl true false false false 0 _ _ _ [] _ _ rfl _ _ (end_0b G o fl)
        rcases secondb G (pointT c - 64) (by omega) (by omega) _ o fl with ⟨p, q1, q2, q3⟩ | ⟨p, a, q1, q2, q3⟩
        · rw [q2]
          exact ⟨_, _, put_q0w G p fl _ c h1 h2 he1 q1, .inr ⟨.txt 0 0 [] [] [], 2, 1, 1, 0, rfl, rfl, fun _ => ⟨by omega, by omega, rfl⟩, by omega, (by exact (by decide : (1 : Nat) ≤ 2)), rfl, ⟨Nat.le_refl _, rfl, fun a h => (by cases h)⟩, hs⟩, q3 _⟩
        · rw [q2]
          exact ⟨_, _, put_t0w G p fl _ c h1 h2 a _ he1 q1, .inr ⟨.txt 0 0 [] [] [escA (pointT c - 64) ⟨#[]⟩], 2, 1, 1, 0, rfl, rfl, fun _ => ⟨by omega, by omega, rfl⟩, by omega, (by exact (by decide : (1 : Nat) ≤ 2)), rfl, ⟨Nat.le_refl _, rfl, bare1 _⟩, hs⟩, q3 _⟩
    | txt1 t ts =>
      cases t with
      | false => exact quiet [_] false rfl rfl (one_str27b G o false false false false false 0 _ _ _ [_] _ _ rfl _ _ (end_no_toldb G o false false false false 0 _ _ _ _ [_]))
      | true =>
        have he1 := one_str27b G o false true false false false 0 _ _ _ [_] _ _ rfl _ _ (end_1b G o ts (Nat.le_trans ok (by omega)))
        rcases secondb G (pointT c - 64) (by omega) (by omega) _ o false with ⟨p, q1, q2, q3⟩ | ⟨p, a, q1, q2, q3⟩
        · rw [q2]
          exact ⟨_, _, put_q1w G p _ false _ c h1 h2 ts he1 q1, .inr ⟨.txt ts.length ts.length (rn ts) ts [], 3, 1, 2, 0, rfl, rfl, fun _ => ⟨by omega, by omega, rfl⟩, by omega, (by exact (by decide : (2 : Nat) ≤ 3)), rfl, ⟨by rw [rn_len]; exact Nat.le_refl _, (rn_take ts).symm, fun a h => (by cases h)⟩, hs⟩, q3 _⟩
        · rw [q2]
          exact ⟨_, _, put_t1w G p _ false _ c h1 h2 ts a _ he1 q1, .inr ⟨.txt ts.length ts.length (rn ts) ts [escA (pointT c - 64) ⟨#[]⟩], 3, 1, 2, 0, rfl, rfl, fun _ => ⟨by omega, by omega, rfl⟩, by omega, (by exact (by decide : (2 : Nat) ≤ 3)), rfl, ⟨by rw [rn_len]; exact Nat.le_refl _, (rn_take ts).symm, bare1 _⟩, hs⟩, q3 _⟩
  · rw [if_neg hc]
    obtain ⟨v, hx, e1, e2, e3⟩ := one_okw G o fl s ok (pointT c) (by omega)
    exact ⟨v, hx, put_1w G _ c hc v hx e1, e2, e3⟩
end
end Go.Proofs.Ytkkcblfoaldckaa
