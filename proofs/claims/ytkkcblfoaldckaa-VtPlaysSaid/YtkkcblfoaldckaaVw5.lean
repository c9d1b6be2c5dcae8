/- Copy, each state; a step of each parser over its own rows alone. Conditions: none. -/
import Derived.Test.YtkkcblfoaldckaaVw4
import Derived.Test.YtkkcblfoaldckaaVs5
set_option linter.unusedVariables false
set_option linter.unusedSimpArgs false
set_option linter.unusedSectionVars false
set_option maxRecDepth 20000
set_option maxHeartbeats 4000000
namespace Go.Proofs.Ytkkcblfoaldckaa
open Go
variable (G : Nat → Option (List AV))
theorem clI_nil (b f : Bool) (r : ARow) (t : List ARow) : aR G FT n_slices_Clone_int [.data b 1 [] f] (r :: t) = some (.data false 1 [] true, r :: t) := by
  rw [aR_ext G (F := FT) (f := n_slices_Clone_int) rfl]
  simp [extCloneI]
theorem clR_nil (b f : Bool) (r : ARow) (t : List ARow) : aR G FT n_slices_Clone_rune [.data b 1 [] f] (r :: t) = some (.data false 1 [] true, r :: t) := by
  rw [aR_ext G (F := FT) (f := n_slices_Clone_rune) rfl]
  simp [extCloneI]
theorem cl_own {k f : Nat} (r : ARow) (t : List ARow) (id n : Nat) (es : List (List AV)) (hi : (r :: t)[id]? = some ⟨k, 0, true, es⟩) (hn : es.length = n) (hl : n ≤ 1000000) :
    extCloneI k f [.own id 0 0 n n] (r :: t) = some (.own (t.length + 1) 0 0 n n, r :: t ++ [⟨k, 0, true, es⟩]) := by
  subst hn
  have e1 : aviewL (r :: t) [.own id 0 0 es.length es.length] = some [.data true k es false] := by
    simp [aviewL, aview, hi]
  have e2 : aadopt (r :: t) [⟨k, 1, true, es⟩] (.own 0 1 0 es.length es.length) = some (.own (t.length + 1) 0 0 es.length es.length, r :: t ++ [⟨k, 0, true, es⟩]) := by
    rw [y_adopt, y_adoptOrd, show areach [⟨k, 1, true, es⟩] 0 64 (AV.ids (.own 0 1 0 es.length es.length)) [] = [0] from rfl]
    rw [if_pos (by simp [orderOk, AV.clean, acleanRow])]
    simp [AV.ren, arows, ARow.ren]
  have e3 : extCloneI k f [.own id 0 0 es.length es.length] (r :: t) = ((aviewL (r :: t) [.own id 0 0 es.length es.length]).bind fun as => (if f = f then extClone k as [] else none).bind fun r' => aadopt (r :: t) r'.2 r'.1) := rfl
  rw [e3, e1, Option.bind_some, if_pos rfl]
  have e4 : extClone k [.data true k es false] [] = some (.own 0 1 0 es.length es.length, [⟨k, 1, true, es⟩]) := by
    simp only [extClone]
    rw [if_pos ⟨trivial, hl⟩]
  rw [e4]
  exact e2
theorem clI_own (r : ARow) (t : List ARow) (id n : Nat) (es : List (List AV)) (hi : (r :: t)[id]? = some ⟨1, 0, true, es⟩) (hn : es.length = n) (hl : n ≤ 1000000) :
    aR G FT n_slices_Clone_int [.own id 0 0 n n] (r :: t) = some (.own (t.length + 1) 0 0 n n, r :: t ++ [⟨1, 0, true, es⟩]) := by
  rw [aR_ext G (F := FT) (f := n_slices_Clone_int) rfl]
  exact cl_own r t id n es hi hn hl
theorem clR_own (r : ARow) (t : List ARow) (id n : Nat) (es : List (List AV)) (hi : (r :: t)[id]? = some ⟨1, 0, true, es⟩) (hn : es.length = n) (hl : n ≤ 1000000) :
    aR G FT n_slices_Clone_rune [.own id 0 0 n n] (r :: t) = some (.own (t.length + 1) 0 0 n n, r :: t ++ [⟨1, 0, true, es⟩]) := by
  rw [aR_ext G (F := FT) (f := n_slices_Clone_rune) rfl]
  exact cl_own r t id n es hi hn hl
def ownOf (s : VS) : List ARow := if vtHas s = true then [⟨1, 0, true, vtEs s⟩] else []
theorem copy_one (s : VS) (ok : vtOk2 s) (fl : Bool) (y : ARow) : aR G FT n_vt_Parser_Copy [.ptr 0 0 0 0] (vtF s fl 2 0 :: y :: ownOf s) = some (.ptr (2 + (ownOf s).length) 0 0 0, vtF s fl 2 0 :: y :: (ownOf s ++ vtF s true (3 + (ownOf s).length) 0 :: ownOf s)) := by
  rw [run_vt_Parser_Copy]
  have c1 := clI_nil G
  have c2 := clR_nil G
  cases s with
  | nil | esc | seq0 | txt0 =>
    simp only [vtF, ownOf, vtHas, Bool.false_eq_true, if_false, List.length_nil, List.nil_append]
    cases fl <;> (sym => simp [Qb,Qc,Qd,Qe,Qi,Qj,Qm,Qn,Qo,Qr,Qt,Qv,Q4,Q5,Q6,Q9,Xc,Xp,Yr,Yt,Yu,Yv,Y1,Y5,Y7,Y9,Za,Zb,Zc,Zd,Ze,Zg,Zh,Zi,Zj,Zk,Zl,Zm,Zn,Zq,Zr,Zs,Zt,Zu,Zv,Zw,Zy,Z0,Z1,Z3,Jh,Jj,Jk,Jr,Jv,Jx,J1,J2,J6,J7,Kr,Ue,Uf,Ug,Uh,Ui,Uj,Ul,Uo,Uq,Us,U0,Hh,Hi,Hk,Hl,Ho,Hp,Hq,Hr,Hs,Ht,Hu,Hv,Hw,Hy,Hz,Nl,No,Nq,Nx,N0,Be,BD,BE,BF,BG,BH,BI,BK,BL,BM,BN,BO,BP,BQ,BY,q22R0.eq_1,q22R1.eq_1,q22R2.eq_1,q22R3.eq_1,q22R4.eq_1,q22R5.eq_1,c_vt_Parser_Copy.eq_1,c1,c2])
  | seq1 v m s q x =>
    obtain ⟨_, hq, _⟩ := ok
    have c3 := fun p p2 : ARow => clI_own G p [y, ⟨1, 0, true, ints q ++ [[.int .i64 x]]⟩, p2] 2 (q.length + 1) _ rfl (by simp [ints_len]) (by omega)
    simp only [List.cons_append, List.nil_append, List.length_cons, List.length_nil] at c3
    simp only [vtF, ownOf, vtHas, vtEs, if_true, List.length_cons, List.length_nil, List.cons_append, List.nil_append]
    cases fl <;> (sym => simp [Qb,Qc,Qd,Qe,Qi,Qj,Qm,Qn,Qo,Qr,Qt,Qv,Q4,Q5,Q6,Q9,Xc,Xp,Yr,Yt,Yu,Yv,Y1,Y5,Y7,Y9,Za,Zb,Zc,Zd,Ze,Zg,Zh,Zi,Zj,Zk,Zl,Zm,Zn,Zq,Zr,Zs,Zt,Zu,Zv,Zw,Zy,Z0,Z1,Z3,Jh,Jj,Jk,Jr,Jv,Jx,J1,J2,J6,J7,Kr,Ue,Uf,Ug,Uh,Ui,Uj,Ul,Uo,Uq,Us,U0,Hh,Hi,Hk,Hl,Ho,Hp,Hq,Hr,Hs,Ht,Hu,Hv,Hw,Hy,Hz,Nl,No,Nq,Nx,N0,Be,BD,BE,BF,BG,BH,BI,BK,BL,BM,BN,BO,BP,BQ,BY,q22R0.eq_1,q22R1.eq_1,q22R2.eq_1,q22R3.eq_1,q22R4.eq_1,q22R5.eq_1,c_vt_Parser_Copy.eq_1,c1,c2,c3])
  | txt1 t ts =>
    have hq : ts.length ≤ 64 := ok
    have c3 := fun p p2 : ARow => clR_own G p [y, ⟨1, 0, true, rn ts⟩, p2] 2 ts.length _ rfl (by simp [rn_len]) (by omega)
    simp only [List.cons_append, List.nil_append, List.length_cons, List.length_nil] at c3
    simp only [vtF, ownOf, vtHas, vtEs, if_true, List.length_cons, List.length_nil, List.cons_append, List.nil_append]
    cases fl <;> (sym => simp [Qb,Qc,Qd,Qe,Qi,Qj,Qm,Qn,Qo,Qr,Qt,Qv,Q4,Q5,Q6,Q9,Xc,Xp,Yr,Yt,Yu,Yv,Y1,Y5,Y7,Y9,Za,Zb,Zc,Zd,Ze,Zg,Zh,Zi,Zj,Zk,Zl,Zm,Zn,Zq,Zr,Zs,Zt,Zu,Zv,Zw,Zy,Z0,Z1,Z3,Jh,Jj,Jk,Jr,Jv,Jx,J1,J2,J6,J7,Kr,Ue,Uf,Ug,Uh,Ui,Uj,Ul,Uo,Uq,Us,U0,Hh,Hi,Hk,Hl,Ho,Hp,Hq,Hr,Hs,Ht,Hu,Hv,Hw,Hy,Hz,Nl,No,Nq,Nx,N0,Be,BD,BE,BF,BG,BH,BI,BK,BL,BM,BN,BO,BP,BQ,BY,q22R0.eq_1,q22R1.eq_1,q22R2.eq_1,q22R3.eq_1,q22R4.eq_1,q22R5.eq_1,c_vt_Parser_Copy.eq_1,c1,c2,c3])
theorem copy_two (s : VS) (ok : vtOk2 s) (fl : Bool) (y yo : ARow) : aR G FT n_vt_Parser_Copy [.ptr 0 0 0 0] (vtF s fl 2 0 :: y :: (ownOf s ++ [yo])) = some (.ptr (3 + (ownOf s).length) 0 0 0, vtF s fl 2 0 :: y :: (ownOf s ++ yo :: vtF s true (4 + (ownOf s).length) 0 :: ownOf s)) := by
  rw [run_vt_Parser_Copy]
  have c1 := clI_nil G
  have c2 := clR_nil G
  cases s with
  | nil | esc | seq0 | txt0 =>
    simp only [vtF, ownOf, vtHas, Bool.false_eq_true, if_false, List.length_nil, List.nil_append]
    cases fl <;> (sym => simp [Qb,Qc,Qd,Qe,Qi,Qj,Qm,Qn,Qo,Qr,Qt,Qv,Q4,Q5,Q6,Q9,Xc,Xp,Yr,Yt,Yu,Yv,Y1,Y5,Y7,Y9,Za,Zb,Zc,Zd,Ze,Zg,Zh,Zi,Zj,Zk,Zl,Zm,Zn,Zq,Zr,Zs,Zt,Zu,Zv,Zw,Zy,Z0,Z1,Z3,Jh,Jj,Jk,Jr,Jv,Jx,J1,J2,J6,J7,Kr,Ue,Uf,Ug,Uh,Ui,Uj,Ul,Uo,Uq,Us,U0,Hh,Hi,Hk,Hl,Ho,Hp,Hq,Hr,Hs,Ht,Hu,Hv,Hw,Hy,Hz,Nl,No,Nq,Nx,N0,Be,BD,BE,BF,BG,BH,BI,BK,BL,BM,BN,BO,BP,BQ,BY,q22R0.eq_1,q22R1.eq_1,q22R2.eq_1,q22R3.eq_1,q22R4.eq_1,q22R5.eq_1,c_vt_Parser_Copy.eq_1,c1,c2])
  | seq1 v m s q x =>
    obtain ⟨_, hq, _⟩ := ok
    have c3 := fun p p2 : ARow => clI_own G p [y, ⟨1, 0, true, ints q ++ [[.int .i64 x]]⟩, yo, p2] 2 (q.length + 1) _ rfl (by simp [ints_len]) (by omega)
    simp only [List.cons_append, List.nil_append, List.length_cons, List.length_nil] at c3
    simp only [vtF, ownOf, vtHas, vtEs, if_true, List.length_cons, List.length_nil, List.cons_append, List.nil_append]
    cases fl <;> (sym => simp [Qb,Qc,Qd,Qe,Qi,Qj,Qm,Qn,Qo,Qr,Qt,Qv,Q4,Q5,Q6,Q9,Xc,Xp,Yr,Yt,Yu,Yv,Y1,Y5,Y7,Y9,Za,Zb,Zc,Zd,Ze,Zg,Zh,Zi,Zj,Zk,Zl,Zm,Zn,Zq,Zr,Zs,Zt,Zu,Zv,Zw,Zy,Z0,Z1,Z3,Jh,Jj,Jk,Jr,Jv,Jx,J1,J2,J6,J7,Kr,Ue,Uf,Ug,Uh,Ui,Uj,Ul,Uo,Uq,Us,U0,Hh,Hi,Hk,Hl,Ho,Hp,Hq,Hr,Hs,Ht,Hu,Hv,Hw,Hy,Hz,Nl,No,Nq,Nx,N0,Be,BD,BE,BF,BG,BH,BI,BK,BL,BM,BN,BO,BP,BQ,BY,q22R0.eq_1,q22R1.eq_1,q22R2.eq_1,q22R3.eq_1,q22R4.eq_1,q22R5.eq_1,c_vt_Parser_Copy.eq_1,c1,c2,c3])
  | txt1 t ts =>
    have hq : ts.length ≤ 64 := ok
    have c3 := fun p p2 : ARow => clR_own G p [y, ⟨1, 0, true, rn ts⟩, yo, p2] 2 ts.length _ rfl (by simp [rn_len]) (by omega)
    simp only [List.cons_append, List.nil_append, List.length_cons, List.length_nil] at c3
    simp only [vtF, ownOf, vtHas, vtEs, if_true, List.length_cons, List.length_nil, List.cons_append, List.nil_append]
    cases fl <;> (sym => simp [Qb,Qc,Qd,Qe,Qi,Qj,Qm,Qn,Qo,Qr,Qt,Qv,Q4,Q5,Q6,Q9,Xc,Xp,Yr,Yt,Yu,Yv,Y1,Y5,Y7,Y9,Za,Zb,Zc,Zd,Ze,Zg,Zh,Zi,Zj,Zk,Zl,Zm,Zn,Zq,Zr,Zs,Zt,Zu,Zv,Zw,Zy,Z0,Z1,Z3,Jh,Jj,Jk,Jr,Jv,Jx,J1,J2,J6,J7,Kr,Ue,Uf,Ug,Uh,Ui,Uj,Ul,Uo,Uq,Us,U0,Hh,Hi,Hk,Hl,Ho,Hp,Hq,Hr,Hs,Ht,Hu,Hv,Hw,Hy,Hz,Nl,No,Nq,Nx,N0,Be,BD,BE,BF,BG,BH,BI,BK,BL,BM,BN,BO,BP,BQ,BY,q22R0.eq_1,q22R1.eq_1,q22R2.eq_1,q22R3.eq_1,q22R4.eq_1,q22R5.eq_1,c_vt_Parser_Copy.eq_1,c1,c2,c3])
/-- The parser's row at p, its own at q. -/
def PAt (h : List ARow) (p : Nat) (s : VS) (fl : Bool) (q gq : Nat) : Prop := h[p]? = some (vtF s fl q gq) ∧ (vtHas s = true → q ≠ p ∧ h[q]? = some ⟨1, gq, true, vtEs s⟩)
/-- What Put told, wherever it lies. -/
def ResM (h h' : List ARow) (q : Nat) (s s' : VS) (v : AV) (acts : List Act') : Prop :=
  (∃ b, v = .data false 6 (actG acts) b ∧ Bare acts) ∨
  ∃ (Z : RZ) (z gz t gt : Nat), v = .own z gz 0 acts.length acts.length ∧ h'[z]? = some { Z.f t gt with gen := gz } ∧ h.length ≤ z ∧ (Z.has = true → (vtHas s = true ∧ t = q ∨ h.length ≤ t) ∧ t ≠ z ∧ h'[t]? = some ⟨1, gt, true, Z.es⟩) ∧ Z.acts = acts ∧ Z.ok ∧ vtHas s' = false
theorem put_step (s : VS) (ok : vtOk2 s) (c : Int) (h : List ARow) (p : Nat) (fl : Bool) (q gq : Nat) (hp : PAt h p s fl q gq) :
    ∃ v h' fl' q' gq', aiso (aR G FT) n_vt_Parser_Put [.ptr p 0 0 0, .int .i32 c] h = some (v, h') ∧ PAt h' p (vtPut s c).2 fl' q' gq' ∧ (vtHas (vtPut s c).2 = true → vtHas s = true ∧ q' = q ∨ h.length ≤ q') ∧
      (∀ r, r ≠ p → (vtHas s = true → r ≠ q) → r < h.length → h'[r]? = h[r]?) ∧ h.length ≤ h'.length ∧ ResM h h' q s (vtPut s c).2 v (vtPut s c).1 := by
  obtain ⟨v, h1, e1, res, st⟩ := put_okw G ⟨1, 0, true, []⟩ fl s ok c
  obtain ⟨fl', i, g, R, rfl, own⟩ := stb_root st
  rw [canonRb_eq] at e1
  rcases res with ⟨b, rfl, bare⟩ | ⟨Z, z, gz, t, gt, rfl, z1, z2, z3, z4, z5, z6, z7⟩
  · obtain ⟨h', i', g', k1, k2, k3, k4, k5⟩ := iso_root (aR G FT) n_vt_Parser_Put (.int .i32 c) rfl (fun _ _ _ _ => rfl) (vtX s fl) (vtX (vtPut s c).2 fl') (vtX_ok _ _) (vtX_ok _ _) rfl rfl h p q gq hp.1 hp.2 _ (by simp [AV.ids]) (by simp [AV.clean]) (fun _ => by simp [AV.mapid]) i g R e1 own
    exact ⟨_, h', fl', i', g', k1, ⟨k2, fun e => ⟨(k3 e).1, (k3 e).2.2⟩⟩, fun e => (k3 e).2.1, k4, k5, .inl ⟨b, rfl, bare⟩⟩
  · have hl : (canonRb s fl).length = 1 + if vtHas s = true then 1 else 0 := by cases s <;> rfl
    obtain ⟨h', z', t', gt', k1, k2, k3, k4, k5, k6, k7⟩ := iso_own (aR G FT) n_vt_Parser_Put (.int .i32 c) rfl (fun _ _ _ _ => rfl) (vtX s fl) (vtX (vtPut s c).2 fl') Z.X (vtX_ok _ _) (vtX_ok _ _) (rz_ok Z) rfl z7 rfl h p q gq hp.1 hp.2 i g R z gz t gt _ _ e1 z1 z2 z3 (fun e => by rw [hl, if_pos e] at z4; exact z4)
    refine ⟨_, h', fl', i, g, k1, ⟨k2, fun e => ?_⟩, fun e => ?_, k6, k7, .inr ⟨Z, z', gz, t', gt', rfl, k3, k4, k5, z5, z6, z7⟩⟩
    · rw [z7] at e; cases e
    · rw [z7] at e; cases e
/-- Three that nobody looks at. -/
theorem put_three (s : VS) (ok : vtOk2 s) (c1 c2 c3 : Int) (h : List ARow) (p : Nat) (fl : Bool) (q gq : Nat) (hp : PAt h p s fl q gq) :
    ∃ v1 h1 v2 h2 v3 h3, aiso (aR G FT) n_vt_Parser_Put [.ptr p 0 0 0, .int .i32 c1] h = some (v1, h1) ∧ aiso (aR G FT) n_vt_Parser_Put [.ptr p 0 0 0, .int .i32 c2] h1 = some (v2, h2) ∧ aiso (aR G FT) n_vt_Parser_Put [.ptr p 0 0 0, .int .i32 c3] h2 = some (v3, h3) ∧
      ∀ r, r ≠ p → (vtHas s = true → r ≠ q) → r < h.length → h3[r]? = h[r]? := by
  obtain ⟨v1, h1, f1, q1, g1, a1, a2, a3, a4, a5, _⟩ := put_step G s ok c1 h p fl q gq hp
  obtain ⟨v2, h2, f2, q2, g2, b1, b2, b3, b4, b5, _⟩ := put_step G _ (put_ok2 s ok c1) c2 h1 p f1 q1 g1 a2
  obtain ⟨v3, h3, f3, q3, g3, d1, d2, d3, d4, d5, _⟩ := put_step G _ (put_ok2 _ (put_ok2 s ok c1) c2) c3 h2 p f2 q2 g2 b2
  refine ⟨v1, h1, v2, h2, v3, h3, a1, b1, d1, fun r r1 r2 r3 => ?_⟩
  have n1 : ∀ e, r ≠ q1 := fun e => by
    rcases a3 e with ⟨e1, rfl⟩ | e1
    · exact r2 e1
    · omega
  have n2 : ∀ e, r ≠ q2 := fun e => by
    rcases b3 e with ⟨e1, rfl⟩ | e1
    · exact n1 e1
    · omega
  rw [d4 r r1 n2 (by omega), b4 r r1 n1 (by omega), a4 r r1 r2 r3]
end Go.Proofs.Ytkkcblfoaldckaa
