/- What slices.IndexFunc, ContainsFunc and DeleteFunc come to, on their caller's rows. Conditions: as each statement says. -/
import Derived.Test.YtfnonledcniojaaCd
import Derived.Test.YtfnonledcniojaaM3
set_option linter.unusedVariables false
set_option linter.unusedSimpArgs false
set_option linter.unusedSectionVars false
set_option maxRecDepth 20000
set_option maxHeartbeats 1000000
namespace Go.Proofs.Ytfnonledcniojaa
open Go
variable (G : Nat → Option (List AV))
theorem ids4 {N : Nat} {a b c d : Nat × AV} (h1 : ∀ i ∈ a.2.ids, i < N) (h2 : ∀ i ∈ b.2.ids, i < N) (h3 : ∀ i ∈ c.2.ids, i < N) (h4 : ∀ i ∈ d.2.ids, i < N) : ∀ p ∈ [a, b, c, d], ∀ i ∈ p.2.ids, i < N := by
  intro p hp
  simp only [List.mem_cons, List.not_mem_nil, or_false] at hp
  rcases hp with rfl | rfl | rfl | rfl <;> assumption
section
variable {α : Type} (l : List α) (vl : α → AV) (s : AV) (pt : Nat → AV) (ff : Nat) (fs cs : List AV) (p : Nat → Bool) (hh : Nat → List ARow) (N : Nat)
  (hN : ∀ j, (hh j).length = N) (hC : ∀ j, ClosedH (hh j)) (hS : ∀ i ∈ s.ids, i < N) (hF : ∀ i ∈ AV.idsL fs ++ AV.idsL cs, i < N) (hl : l.length < 9223372036854775807)
  (hlen : alen false s = some (.int .i64 l.length)) (hidx : ∀ j (i : Nat), i < l.length → aidx (hh j) 3 s (.int .i64 i) = some (pt i)) (hld : ∀ j (i : Nat) (h : i < l.length), aload (hh j) true 3 (pt i) = some (vl l[i]))
include hN hC hS hF hl hidx hld
include hlen
end


/-- What the loop of DeleteFunc does. -/
def delRun {α : Type} (p : α → Bool) : List α → Nat → List α → Nat × List α
  | [], i, R => (i, R)
  | x :: t, i, R => if p x = true then delRun p t i R else delRun p t (i + 1) (R.set i x)
theorem delRun_spec {α : Type} (p : α → Bool) : ∀ (t : List α) (i : Nat) (R : List α), i + t.length ≤ R.length → (delRun p t i R).1 = i + (t.filter fun x => !p x).length ∧ (delRun p t i R).2.length = R.length ∧
    (delRun p t i R).2.take (delRun p t i R).1 = R.take i ++ t.filter fun x => !p x
  | [], i, R, _ => by simp [delRun]
  | x :: t, i, R, hi => by
    simp only [List.length_cons] at hi
    unfold delRun
    by_cases hx : p x = true
    · rw [if_pos hx]
      have := delRun_spec p t i R (by omega)
      simpa [hx] using this
    · rw [if_neg hx]
      obtain ⟨h1, h2, h3⟩ := delRun_spec p t (i + 1) (R.set i x) (by simp; omega)
      have hx' : p x = false := by simpa using hx
      refine ⟨by rw [h1]; simp [hx']; omega, by rw [h2]; simp, ?_⟩
      rw [h3]
      have hlt : i < R.length := by omega
      rw [List.take_add_one, List.take_set_of_le (Nat.le_refl _)]
      simp [hx', hlt]
theorem first_of {α : Type} (p : α → Bool) : ∀ (l : List α), ((∀ x ∈ l, p x = false) ∧ (l.filter fun x => !p x) = l) ∨ ∃ (k : Nat) (h : k < l.length), p l[k] = true ∧ (∀ (j : Nat) (hj : j < l.length), j < k → p l[j] = false) ∧ (l.filter fun x => !p x) = l.take k ++ (l.drop (k + 1)).filter fun x => !p x
  | [] => .inl ⟨by simp, rfl⟩
  | y :: l => by
    by_cases hy : p y = true
    · exact .inr ⟨0, by simp, by simpa using hy, fun j _ hj => by omega, by simp [hy]⟩
    · have hy' : p y = false := by simpa using hy
      rcases first_of p l with ⟨h1, h2⟩ | ⟨k, h1, h2, h3, h4⟩
      · refine .inl ⟨fun x hx => ?_, by simp [hy', h2]⟩
        rcases List.mem_cons.1 hx with rfl | hx
        · exact hy'
        · exact h1 x hx
      · refine .inr ⟨k + 1, by simpa using h1, by simpa using h2, fun j hj hlt => ?_, by simp [hy', h4]⟩
        cases j with
        | zero => simpa using hy'
        | succ j => simpa using h3 j (by simpa using hj) (by omega)
theorem set_back {h : List ARow} {id : Nat} {r : ARow} (hr : h[id]? = some r) : h.set id r = h := by
  apply List.ext_getElem?
  intro i
  by_cases e : id = i
  · subst e; rw [List.getElem?_set_self (List.getElem?_eq_some_iff.1 hr).1]; exact hr.symm
  · rw [List.getElem?_set_ne e]
theorem headdel {h : List ARow} {id g n c ff : Nat} {fs cs : List AV} {r : ARow} {e : List ARow} (hid : id < h.length) (hC : ClosedH (h.set id r)) (hF : ∀ i ∈ AV.idsL fs ++ AV.idsL cs, i < h.length) (i j : Int) :
    agc h.length [0, 1, 5, 6] ⟨[(0, .own id g 0 n c), (1, .fn (.func ff) fs cs), (5, .int .i64 i), (6, .int .i64 j)], h.set id r ++ e⟩ = some ⟨[(0, .own id g 0 n c), (1, .fn (.func ff) fs cs), (5, .int .i64 i), (6, .int .i64 j)], h.set id r⟩ := by
  have e0 : akeep [0, 1, 5, 6] [(0, .own id g 0 n c), (1, .fn (.func ff) fs cs), (5, .int .i64 i), (6, .int .i64 j)] = [(0, .own id g 0 n c), (1, .fn (.func ff) fs cs), (5, .int .i64 i), (6, .int .i64 j)] := by (sym => simp [Y9,Za,Zb,Ze])
  have := agc_drop (h := h.set id r) (e := e) (live := [0, 1, 5, 6]) (env := [(0, .own id g 0 n c), (1, .fn (.func ff) fs cs), (5, .int .i64 i), (6, .int .i64 j)]) hC (by rw [e0, List.length_set]; exact ids4 (by simpa [AV.ids] using hid) (by simpa [AV.ids] using hF) (by simp [AV.ids]) (by simp [AV.ids]))
  rw [List.length_set, e0] at this
  exact this
theorem drop_at {α : Type} {l R : List α} {j : Nat} (hd : R.drop j = l.drop j) (hj : j < l.length) : R[j]? = some l[j] := by
  have : (R.drop j)[0]? = (l.drop j)[0]? := by rw [hd]
  simpa [hj] using this
theorem drop_next {α : Type} {l R : List α} {j : Nat} (hd : R.drop j = l.drop j) : R.drop (j + 1) = l.drop (j + 1) := by
  have : (R.drop j).drop 1 = (l.drop j).drop 1 := by rw [hd]
  simpa [List.drop_drop] using this


theorem headfnj {s : AV} {ff : Nat} {fs cs : List AV} {hh : Nat → List ARow} {N : Nat} (hN : ∀ j, (hh j).length = N) (hC : ∀ j, ClosedH (hh j)) (hS : ∀ i ∈ s.ids, i < N) (hF : ∀ i ∈ AV.idsL fs ++ AV.idsL cs, i < N) (j : Nat) (n i : Int) (e : List ARow) :
    agc N [0, 1, 7, 8] ⟨[(0, s), (1, .fn (.func ff) fs cs), (7, .int .i64 n), (8, .int .i64 i)], hh j ++ e⟩ = some ⟨[(0, s), (1, .fn (.func ff) fs cs), (7, .int .i64 n), (8, .int .i64 i)], hh j⟩ := by
  have e0 : akeep [0, 1, 7, 8] [(0, s), (1, .fn (.func ff) fs cs), (7, .int .i64 n), (8, .int .i64 i)] = [(0, s), (1, .fn (.func ff) fs cs), (7, .int .i64 n), (8, .int .i64 i)] := by (sym => simp [Y9,Za,Zb,Ze])
  have := agc_drop (h := hh j) (e := e) (live := [0, 1, 7, 8]) (env := [(0, s), (1, .fn (.func ff) fs cs), (7, .int .i64 n), (8, .int .i64 i)]) (hC j) (by rw [e0, hN j]; exact ids4 hS (by simpa [AV.ids] using hF) (by simp [AV.ids]) (by simp [AV.ids]))
  rw [hN j, e0] at this
  exact this


section
variable {α : Type} (l : List α) (vl : α → AV) (s : AV) (pt : Nat → AV) (ff : Nat) (fs cs : List AV) (p : Nat → Bool) (hh J : Nat → List ARow) (N : Nat)
  (hN : ∀ j, (hh j).length = N) (hC : ∀ j, ClosedH (hh j)) (hS : ∀ i ∈ s.ids, i < N) (hF : ∀ i ∈ AV.idsL fs ++ AV.idsL cs, i < N) (hl : l.length < 9223372036854775807)
  (hlen : alen false s = some (.int .i64 l.length)) (hidx : ∀ j (i : Nat), i < l.length → aidx (hh j) 3 s (.int .i64 i) = some (pt i)) (hld : ∀ j (i : Nat) (h : i < l.length), aload (hh j) true 3 (pt i) = some (vl l[i]))
include hN hC hS hF hl hidx hld
theorem idxj_Typed_found_loop (k : Nat) (hk : k < l.length) (hp : ∀ i (h : i < l.length), i ≤ k → aR G FT ff (fs ++ [vl l[i]] ++ cs) (hh i) = some (.bool (p i), hh (i + 1) ++ J i)) (hpk : p k = true) (hpj : ∀ j, j < k → p j = false) : ∀ (m i : Nat), i + m = k → ∀ e,
    aE G FT N lp_slices_IndexFunc_Typed_0 ⟨[(0, s), (1, .fn (.func ff) fs cs), (7, .int .i64 l.length), (8, .int .i64 i)], hh i ++ e⟩ = some (.ret, ⟨[(4, .int .i64 k)], hh (k + 1) ++ J k⟩) := by
  intro m
  induction m with
  | zero =>
    intro i hi e
    obtain rfl : i = k := by omega
    rw [lp_slices_IndexFunc_Typed_0, y_loop, headfnj hN hC hS hF]
    have h1 := hidx i i hk
    have h2 := hld i i hk
    have h3 := hp i hk (Nat.le_refl _)
    rw [hpk] at h3
    have h4 : (i : Int) < l.length := by omega
    (sym => simp [Qb,Qc,Qd,Qe,Qi,Qj,Qm,Qn,Qp,Qq,Qr,Qt,Q4,Xa,Xs,X5,Ya,Y9,Za,Zb,Zc,Ze,Zg,Zh,Zt,Zv,Zw,Z3,Jj,Jk,Jl,Jn,Jo,Jp,Jr,Js,Jt,Jv,Nl,Be,q72R0.eq_1,q72R1.eq_1,q72R2.eq_1,q72R3.eq_1,q72R4.eq_1,q72R5.eq_1,q72R6.eq_1,q72R7.eq_1,c_slices_IndexFunc_Typed.eq_1,c_slices_IndexFunc_Typed_L0.eq_1,h1,h2,h3,h4])
  | succ m ih =>
    intro i hi e
    have ih := ih (i + 1) (by omega) (J i)
    have hil : i < l.length := by omega
    rw [lp_slices_IndexFunc_Typed_0] at ih
    rw [lp_slices_IndexFunc_Typed_0, y_loop, headfnj hN hC hS hF]
    have h1 := hidx i i hil
    have h2 := hld i i hil
    have h3 := hp i hil (by omega)
    rw [hpj i (by omega)] at h3
    have h4 : (i : Int) < l.length := by omega
    have hw := wrap_nat (n := i) (by omega)
    rw [← ih]
    (sym => simp [Qb,Qc,Qd,Qe,Qi,Qj,Qm,Qn,Qp,Qq,Qr,Qt,Q4,Xa,Xs,X5,Ya,Y9,Za,Zb,Zc,Ze,Zg,Zh,Zt,Zv,Zw,Z3,Jj,Jk,Jl,Jn,Jo,Jp,Jr,Js,Jt,Jv,Nl,Be,q72R0.eq_1,q72R1.eq_1,q72R2.eq_1,q72R3.eq_1,q72R4.eq_1,q72R5.eq_1,q72R6.eq_1,q72R7.eq_1,c_slices_IndexFunc_Typed.eq_1,c_slices_IndexFunc_Typed_L0.eq_1,h1,h2,h3,h4,hw])
theorem idxj_Typed_none_loop (hp : ∀ i (h : i < l.length), aR G FT ff (fs ++ [vl l[i]] ++ cs) (hh i) = some (.bool (p i), hh (i + 1) ++ J i)) (hpj : ∀ j, j < l.length → p j = false) : ∀ (m i : Nat), i + m = l.length → ∀ e,
    aE G FT N lp_slices_IndexFunc_Typed_0 ⟨[(0, s), (1, .fn (.func ff) fs cs), (7, .int .i64 l.length), (8, .int .i64 i)], hh i ++ e⟩ = some (.exit 0, ⟨[(0, s), (1, .fn (.func ff) fs cs), (7, .int .i64 l.length), (8, .int .i64 l.length), (9, .bool false)], hh l.length⟩) := by
  intro m
  induction m with
  | zero =>
    intro i hi e
    obtain rfl : i = l.length := by omega
    rw [lp_slices_IndexFunc_Typed_0, y_loop, headfnj hN hC hS hF]
    have h4 : ¬ (l.length : Int) < l.length := by omega
    (sym => simp [Qa,Qc,Qd,Qe,Qi,Qj,Qm,Qn,Qp,Qq,Qr,Qt,Q4,Xa,Xs,X5,Ya,Y9,Za,Zb,Zc,Ze,Zg,Zh,Zt,Zv,Zw,Z3,Jj,Jk,Jm,Jn,Jo,Jr,Js,Ju,Jv,Nl,Nm,Be,q72R0.eq_1,q72R1.eq_1,q72R2.eq_1,q72R3.eq_1,q72R4.eq_1,q72R5.eq_1,q72R6.eq_1,q72R7.eq_1,c_slices_IndexFunc_Typed.eq_1,c_slices_IndexFunc_Typed_L0.eq_1,h4])
  | succ m ih =>
    intro i hi e
    have ih := ih (i + 1) (by omega) (J i)
    have hil : i < l.length := by omega
    rw [lp_slices_IndexFunc_Typed_0] at ih
    rw [lp_slices_IndexFunc_Typed_0, y_loop, headfnj hN hC hS hF]
    have h1 := hidx i i hil
    have h2 := hld i i hil
    have h3 := hp i hil
    rw [hpj i (by omega)] at h3
    have h4 : (i : Int) < l.length := by omega
    have hw := wrap_nat (n := i) (by omega)
    rw [← ih]
    (sym => simp [Qa,Qc,Qd,Qe,Qi,Qj,Qm,Qn,Qp,Qq,Qr,Qt,Q4,Xa,Xs,X5,Ya,Y9,Za,Zb,Zc,Ze,Zg,Zh,Zt,Zv,Zw,Z3,Jj,Jk,Jm,Jn,Jo,Jr,Js,Ju,Jv,Nl,Nm,Be,q72R0.eq_1,q72R1.eq_1,q72R2.eq_1,q72R3.eq_1,q72R4.eq_1,q72R5.eq_1,q72R6.eq_1,q72R7.eq_1,c_slices_IndexFunc_Typed.eq_1,c_slices_IndexFunc_Typed_L0.eq_1,h1,h2,h3,h4,hw])
include hlen
theorem idxj_Typed_found (k : Nat) (hk : k < l.length) (hp : ∀ i (h : i < l.length), i ≤ k → aR G FT ff (fs ++ [vl l[i]] ++ cs) (hh i) = some (.bool (p i), hh (i + 1) ++ J i)) (hpk : p k = true) (hpj : ∀ j, j < k → p j = false) :
    aR G FT n_slices_IndexFunc_Typed [s, .fn (.func ff) fs cs] (hh 0) = some (.int .i64 k, hh (k + 1) ++ J k) := by
  have key := idxj_Typed_found_loop G l vl s pt ff fs cs p hh J N hN hC hS hF hl hidx hld k hk hp hpk hpj k 0 (by omega) []
  simp only [Int.natCast_zero, List.append_nil] at key
  rw [run_slices_IndexFunc_Typed, hN 0]
  (sym => simp [Qd,Qe,Qi,Qj,Qr,Xy,Y1,Y5,Y7,Y9,Za,Zb,Zc,Ze,Zg,Zh,Zi,Zj,Zk,Zl,Zr,Zs,Zt,Zu,Zv,Zw,Jj,Jk,Jl,Jn,Jp,Jv,Jx,Be,q72R0.eq_1,q72R1.eq_1,q72R2.eq_1,q72R3.eq_1,q72R4.eq_1,q72R5.eq_1,q72R6.eq_1,q72R7.eq_1,c_slices_IndexFunc_Typed.eq_1,hlen,key])
theorem idxj_Typed_none (hp : ∀ i (h : i < l.length), aR G FT ff (fs ++ [vl l[i]] ++ cs) (hh i) = some (.bool (p i), hh (i + 1) ++ J i)) (hpj : ∀ j, j < l.length → p j = false) :
    aR G FT n_slices_IndexFunc_Typed [s, .fn (.func ff) fs cs] (hh 0) = some (.int .i64 (-1), hh l.length) := by
  have key := idxj_Typed_none_loop G l vl s pt ff fs cs p hh J N hN hC hS hF hl hidx hld hp hpj l.length 0 (by omega) []
  simp only [Int.natCast_zero, List.append_nil] at key
  rw [run_slices_IndexFunc_Typed, hN 0]
  (sym => simp [Qb,Qd,Qe,Qi,Qj,Qr,Xy,Y1,Y5,Y7,Y9,Za,Zb,Zc,Ze,Zg,Zh,Zi,Zj,Zk,Zl,Zr,Zs,Zt,Zu,Zv,Zw,Jj,Jk,Jn,Jq,Jv,Jx,Be,q72R0.eq_1,q72R1.eq_1,q72R2.eq_1,q72R3.eq_1,q72R4.eq_1,q72R5.eq_1,q72R6.eq_1,q72R7.eq_1,c_slices_IndexFunc_Typed.eq_1,hlen,key])
end


section
variable {α : Type} (cl : α → List AV) (z0 : α) (hz : cl z0 = [.int .i64 0, .int .i64 0, .data false 1 [] true]) (hcl : ∀ x, (cl x).length = 3) (hst : ∀ x, AV.stableL (cl x) = true)
variable (l : List α) (id g c ff : Nat) (fs cs : List AV) (p : α → Bool) (h : List ARow) (hid : id < h.length) (hC : ClosedH h) (hF : ∀ i ∈ AV.idsL fs ++ AV.idsL cs, i < h.length) (hl : l.length < 1000000) (hc : l.length ≤ c)
  (J : α → List ARow) (hp : ∀ R x e, aR G FT ff (fs ++ [AV.agg (cl x)] ++ cs) (h.set id ⟨3, g, true, List.map cl R⟩ ++ e) = some (.bool (p x), h.set id ⟨3, g, true, List.map cl R⟩ ++ (e ++ J x)))
include hid hC hF hl hp hcl hst
theorem delj_Typed_loop : ∀ (m i j : Nat) (R : List α), j + m = l.length → i < j → R.length = l.length → R.drop j = l.drop j → ∀ e,
    aE G FT h.length lp_slices_DeleteFunc_Typed_0 ⟨[(0, .own id g 0 l.length c), (1, .fn (.func ff) fs cs), (5, .int .i64 i), (6, .int .i64 j)], h.set id ⟨3, g, true, List.map cl R⟩ ++ e⟩ =
      some (.exit 0, ⟨[(0, .own id g 0 l.length c), (1, .fn (.func ff) fs cs), (5, .int .i64 (delRun p (l.drop j) i R).1), (6, .int .i64 l.length), (19, .bool false)], h.set id ⟨3, g, true, List.map cl (delRun p (l.drop j) i R).2⟩⟩) := by
  have hs : ∀ r, (h.set id r)[id]? = some r := fun r => List.getElem?_set_self hid
  have hsa : ∀ r e, (h.set id r ++ e)[id]? = some r := fun r e => by rw [List.getElem?_append_left (by simpa using hid)]; exact hs r
  have hsv : ∀ r v e, (h.set id r ++ v :: e)[h.length]? = some v := fun r v e => by rw [List.getElem?_append_right (by simp)]; simp
  have hss : ∀ r r' e, (h.set id r ++ e).set id r' = h.set id r' ++ e := fun r r' e => by rw [List.set_append_left _ _ (by simpa using hid), List.set_set]
  have hvs : ∀ r v v', (h.set id r ++ [v]).set h.length v' = h.set id r ++ [v'] := fun r v v' => by rw [List.set_append_right _ _ (by simp)]; simp
  have ha : ∀ (R : List α) (i j : Int) e, _ := fun R i j e => headdel (g := g) (n := l.length) (c := c) (ff := ff) (e := e) hid (hC.set (id := id) (r := ⟨3, g, true, List.map cl R⟩) rfl) hF i j
  intro m
  induction m with
  | zero =>
    intro i j R hj hij hR hd e'
    have e : l.drop j = [] := List.drop_eq_nil_of_le (by omega)
    have ej : j = l.length := by omega
    subst ej
    rw [lp_slices_DeleteFunc_Typed_0, y_loop, ha, e, delRun]
    have h4 : ¬ (l.length : Int) < l.length := by omega
    (sym => simp [Qa,Qc,Qd,Qe,Qi,Qj,Qm,Qn,Qp,Qq,Qr,Qt,Qv,Q4,Q5,Xa,Xd,Xs,Xy,X5,Ya,Yg,Yr,Yu,Yx,Y9,Za,Zb,Zc,Zd,Ze,Zg,Zh,Zm,Zn,Zt,Zv,Zw,Zx,Zy,Z0,Z1,Z3,Jj,Jk,Jm,Jn,Jo,Jr,Js,Ju,Jv,J1,J2,Ue,Uf,Ug,Ul,Hh,Hk,Hn,Hp,Hr,Hs,Ht,Hu,Hv,Hw,H8,Ni,Nk,Nl,Nm,No,Nw,Nx,Nz,N0,Be,q68R0.eq_1,q68R1.eq_1,q68R2.eq_1,q68R3.eq_1,q68R4.eq_1,q68R5.eq_1,q68R7.eq_1,q68R8.eq_1,q68R9.eq_1,q68R10.eq_1,q68R6.eq_1,q68R11.eq_1,q68R12.eq_1,c_slices_DeleteFunc_Typed.eq_1,c_slices_DeleteFunc_Typed_L0.eq_1,h4])
  | succ m ih =>
    intro i j R hj hij hR hd e'
    have hlt : j < l.length := by omega
    have hlt' : (j : Int) < l.length := by omega
    have hi' : (i : Int) < l.length := by omega
    have hiR : i < R.length := by omega
    have e : l.drop j = l[j] :: l.drop (j + 1) := List.drop_eq_getElem_cons hlt
    have hRj : (List.map cl R)[j]? = some (cl l[j]) := by rw [List.getElem?_map, drop_at hd hlt]; rfl
    obtain ⟨y, hRi⟩ : ∃ y, (List.map cl R)[i]? = some (cl y) := ⟨R[i], by rw [List.getElem?_map, List.getElem?_eq_getElem hiR]; rfl⟩
    have hd1 := drop_next hd
    rw [lp_slices_DeleteFunc_Typed_0] at ih
    rw [lp_slices_DeleteFunc_Typed_0, y_loop, ha, e, delRun]
    have hw := wrap_nat (n := i) (by omega)
    have hw2 := wrap_nat (n := j) (by omega)
    have hp := hp R l[j]
    have hcx := hcl l[j]
    have hsx := hst l[j]
    have hcy := hcl y
    have tkx : List.take 3 (cl l[j]) = cl l[j] := List.take_of_length_le (by omega)
    have tky : List.drop 3 (cl y) = [] := List.drop_eq_nil_of_le (by omega)
    generalize l[j] = x at *
    by_cases hx : p x = true
    · have ih := fun e => ih i (j + 1) R (by omega) (by omega) hR hd1 e
      rw [if_pos hx]
      generalize delRun p (l.drop (j + 1)) i R = DD at ih ⊢
      (sym => simp [Qa,Qc,Qd,Qe,Qi,Qj,Qm,Qn,Qp,Qq,Qr,Qt,Qv,Q4,Q5,Xa,Xd,Xs,Xy,X5,Ya,Yg,Yr,Yu,Yx,Y9,Za,Zb,Zc,Zd,Ze,Zg,Zh,Zm,Zn,Zt,Zv,Zw,Zx,Zy,Z0,Z1,Z3,Jj,Jk,Jm,Jn,Jo,Jr,Js,Ju,Jv,J1,J2,Ue,Uf,Ug,Ul,Hh,Hk,Hn,Hp,Hr,Hs,Ht,Hu,Hv,Hw,H8,Ni,Nk,Nl,Nm,No,Nw,Nx,Nz,N0,Be,q68R0.eq_1,q68R1.eq_1,q68R2.eq_1,q68R3.eq_1,q68R4.eq_1,q68R5.eq_1,q68R7.eq_1,q68R8.eq_1,q68R9.eq_1,q68R10.eq_1,q68R6.eq_1,q68R11.eq_1,q68R12.eq_1,c_slices_DeleteFunc_Typed.eq_1,c_slices_DeleteFunc_Typed_L0.eq_1,hlt',hs,hsa,hsv,hss,hvs,hRj,hp,hx,hw2,hcx,hsx,tkx]; tactic => (
        exact ih _))
    · have hx' : p x = false := by simpa using hx
      have ih := fun e => ih (i + 1) (j + 1) (R.set i x) (by omega) (by omega) (by simpa using hR) (by rw [List.drop_set_of_lt (by omega)]; exact hd1) e
      rw [if_neg hx]
      generalize delRun p (l.drop (j + 1)) (i + 1) (R.set i x) = DD at ih ⊢
      have hms : (List.map cl R).set i (cl x) = List.map cl (R.set i x) := by rw [List.map_set]
      (sym => simp [Qa,Qc,Qd,Qe,Qi,Qj,Qm,Qn,Qp,Qq,Qr,Qt,Qv,Q4,Q5,Xa,Xd,Xs,Xy,X5,Ya,Yg,Yr,Yu,Yx,Y9,Za,Zb,Zc,Zd,Ze,Zg,Zh,Zm,Zn,Zt,Zv,Zw,Zx,Zy,Z0,Z1,Z3,Jj,Jk,Jm,Jn,Jo,Jr,Js,Ju,Jv,J1,J2,Ue,Uf,Ug,Ul,Hh,Hk,Hn,Hp,Hr,Hs,Ht,Hu,Hv,Hw,H8,Ni,Nk,Nl,Nm,No,Nw,Nx,Nz,N0,Be,q68R0.eq_1,q68R1.eq_1,q68R2.eq_1,q68R3.eq_1,q68R4.eq_1,q68R5.eq_1,q68R7.eq_1,q68R8.eq_1,q68R9.eq_1,q68R10.eq_1,q68R6.eq_1,q68R11.eq_1,q68R12.eq_1,c_slices_DeleteFunc_Typed.eq_1,c_slices_DeleteFunc_Typed_L0.eq_1,hlt',hi',hs,hsa,hsv,hss,hvs,hRj,hRi,hp,hx',hw,hw2,hms,hcx,hsx,hcy,tkx,tky]; tactic => (
        exact ih _))
end


section
variable {α : Type} (cl : α → List AV) (z0 : α) (hz : cl z0 = [.int .i64 0, .int .i64 0, .data false 1 [] true]) (hcl : ∀ x, (cl x).length = 3) (hst : ∀ x, AV.stableL (cl x) = true)
variable (l : List α) (id g c ff : Nat) (fs cs : List AV) (p : α → Bool) (h : List ARow) (hid : id < h.length) (hC : ClosedH h) (hF : ∀ i ∈ AV.idsL fs ++ AV.idsL cs, i < h.length) (hl : l.length < 1000000) (hc : l.length ≤ c)
  (J : α → List ARow) (hp : ∀ R x e, aR G FT ff (fs ++ [AV.agg (cl x)] ++ cs) (h.set id ⟨3, g, true, List.map cl R⟩ ++ e) = some (.bool (p x), h.set id ⟨3, g, true, List.map cl R⟩ ++ (e ++ J x)))
include hid hC hF hl hp hcl hst hz hc
theorem delj_Typed (hrow : h[id]? = some ⟨3, g, true, List.map cl l⟩) :
    aR G FT n_slices_DeleteFunc_Typed [.own id g 0 l.length c, .fn (.func ff) fs cs] h = some (.own id g 0 (l.filter fun x => !p x).length c,
      h.set id ⟨3, g, true, List.map cl ((l.filter fun x => !p x) ++ List.replicate (l.length - (l.filter fun x => !p x).length) z0)⟩) := by
  have hset := set_back hrow
  have hp0 : ∀ x, aR G FT ff (fs ++ [AV.agg (cl x)] ++ cs) h = some (.bool (p x), h ++ J x) := fun x => by have := hp l x []; simpa [hset] using this
  have hidx : ∀ (j i : Nat), i < l.length → aidx ((fun _ => h) j) 3 (.own id g 0 l.length c) (.int .i64 i) = some (.ptr id g i 0) := fun j i hi => by
    have h4 : (i : Int) < l.length := by omega
    (sym => simp [Qb,Qc,Qd,Qe,Qi,Qj,Qm,Qn,Qo,Qr,Qt,Xa,Xl,Xm,Xn,X5,X8,Yr,Yu,Yx,Y1,Y5,Y7,Y9,Za,Zb,Zc,Zd,Ze,Zg,Zh,Zi,Zj,Zk,Zl,Zm,Zn,Zq,Zr,Zs,Zt,Zu,Zv,Zw,Zx,Zy,Zz,Z0,Z3,Jj,Jk,Jl,Jn,Jq,Jr,Jv,Jx,K0,K1,K2,Ue,Uf,Ug,Ul,W8,Hs,Hw,H8,Na,Nf,Ng,Ni,Nk,Nl,Nm,No,Nx,Nz,Bb,Be,hrow,h4])
  have hld : ∀ (j i : Nat) (hi : i < l.length), aload ((fun _ => h) j) true 3 (.ptr id g i 0) = some (AV.agg (cl l[i])) := fun j i hi => by
    have h4 : (List.map cl l)[i]? = some (cl l[i]) := by rw [List.getElem?_map, List.getElem?_eq_getElem hi]; rfl
    have hcx := hcl l[i]
    have tkx : List.take 3 (cl l[i]) = cl l[i] := List.take_of_length_le (by omega)
    (sym => simp [Qb,Qc,Qd,Qe,Qi,Qj,Qm,Qn,Qo,Qr,Qt,Xa,Xl,Xm,Xn,X5,X8,Yr,Yu,Yx,Y1,Y5,Y7,Y9,Za,Zb,Zc,Zd,Ze,Zg,Zh,Zi,Zj,Zk,Zl,Zm,Zn,Zq,Zr,Zs,Zt,Zu,Zv,Zw,Zx,Zy,Zz,Z0,Z3,Jj,Jk,Jl,Jn,Jq,Jr,Jv,Jx,K0,K1,K2,Ue,Uf,Ug,Ul,W8,Hs,Hw,H8,Na,Nf,Ng,Ni,Nk,Nl,Nm,No,Nx,Nz,Bb,Be,hrow,h4,hcx,tkx])
  rw [run_slices_DeleteFunc_Typed]
  rcases first_of p l with ⟨h1, h2⟩ | ⟨k, hk, h1, h2, h3⟩
  · have key := idxj_Typed_none G l (fun x => AV.agg (cl x)) (.own id g 0 l.length c) (fun i => .ptr id g i 0) ff fs cs (fun _ => false) (fun _ => h) (fun i => if hi : i < l.length then J l[i] else []) h.length (fun _ => rfl) (fun _ => hC) (by simpa [AV.ids] using hid) hF (by omega) rfl hidx hld
      (fun i hi => by rw [hp0, h1 _ (List.getElem_mem _), dif_pos hi]) (fun j hj => rfl)
    rw [h2, Nat.sub_self, List.replicate_zero, List.append_nil, hset]
    (sym => simp [Qb,Qc,Qd,Qe,Qi,Qj,Qm,Qn,Qo,Qr,Qt,Xa,Xl,Xm,Xn,X5,X8,Yr,Yu,Yx,Y1,Y5,Y7,Y9,Za,Zb,Zc,Zd,Ze,Zg,Zh,Zi,Zj,Zk,Zl,Zm,Zn,Zq,Zr,Zs,Zt,Zu,Zv,Zw,Zx,Zy,Zz,Z0,Z3,Jj,Jk,Jl,Jn,Jq,Jr,Jv,Jx,K0,K1,K2,Ue,Uf,Ug,Ul,W8,Hs,Hw,H8,Na,Nf,Ng,Ni,Nk,Nl,Nm,No,Nx,Nz,Bb,Be,q68R0.eq_1,q68R1.eq_1,q68R2.eq_1,q68R3.eq_1,q68R4.eq_1,q68R5.eq_1,q68R7.eq_1,q68R8.eq_1,q68R9.eq_1,q68R10.eq_1,q68R6.eq_1,q68R11.eq_1,q68R12.eq_1,c_slices_DeleteFunc_Typed.eq_1,key])
  · have key := idxj_Typed_found G l (fun x => AV.agg (cl x)) (.own id g 0 l.length c) (fun i => .ptr id g i 0) ff fs cs (fun j => decide (j = k)) (fun _ => h) (fun i => if hi : i < l.length then J l[i] else []) h.length (fun _ => rfl) (fun _ => hC) (by simpa [AV.ids] using hid) hF (by omega) rfl hidx hld k hk
      (fun i hi hik => by
        rw [hp0, dif_pos hi]
        by_cases e : i = k
        · subst e; simp [h1]
        · simp [e, h2 i hi (by omega)]) (by simp) (fun j hj => by simp; omega)
    rw [dif_pos hk] at key
    have hw := wrap_nat (n := k) (by omega)
    have hk1 : ¬ ((k : Int) = -1) := by omega
    have loop := delj_Typed_loop G cl hcl hst l id g c ff fs cs p h hid hC hF hl J hp (l.length - (k + 1)) k (k + 1) l (by omega) (by omega) rfl rfl (J l[k])
    obtain ⟨s1, s2, s3⟩ := delRun_spec p (l.drop (k + 1)) k l (by simp; omega)
    rw [hset] at loop
    generalize delRun p (l.drop (k + 1)) k l = D at loop s1 s2 s3
    have hD : D.1 = (l.filter fun x => !p x).length := by rw [s1, h3]; simp; omega
    have hle : D.1 ≤ l.length := by rw [hD]; exact List.length_filter_le _ _
    have hfin : D.2.take D.1 ++ List.replicate (l.length - D.1) z0 = (l.filter fun x => !p x) ++ List.replicate (l.length - (l.filter fun x => !p x).length) z0 := by rw [s3, h3, hD, h3]
    rw [← hfin, ← hD]
    have hs : ∀ r, (h.set id r)[id]? = some r := fun r => List.getElem?_set_self hid
    have ml : (List.map cl D.2).length = l.length := by rw [List.length_map, s2]
    have e1 : (List.map cl D.2).drop (D.1 + (l.length - D.1)) = [] := List.drop_eq_nil_of_le (by rw [ml]; omega)
    have e2 : D.1 + (l.length - D.1) ≤ l.length := by omega
    have e3 : (List.map cl D.2).take D.1 ++ List.replicate (l.length - D.1) (cl z0) = List.map cl (D.2.take D.1 ++ List.replicate (l.length - D.1) z0) := by rw [List.map_append, List.map_take, List.map_replicate]
    rw [hz] at e3
    have f1 : D.1 ≤ c := by omega
    (sym => simp [Qb,Qc,Qd,Qe,Qi,Qj,Qm,Qn,Qo,Qr,Qt,Xa,Xl,Xm,Xn,X5,X8,Yr,Yu,Yx,Y1,Y5,Y7,Y9,Za,Zb,Zc,Zd,Ze,Zg,Zh,Zi,Zj,Zk,Zl,Zm,Zn,Zq,Zr,Zs,Zt,Zu,Zv,Zw,Zx,Zy,Zz,Z0,Z3,Jj,Jk,Jl,Jn,Jq,Jr,Jv,Jx,K0,K1,K2,Ue,Uf,Ug,Ul,W8,Hs,Hw,H8,Na,Nf,Ng,Ni,Nk,Nl,Nm,No,Nx,Nz,Bb,Be,q68R0.eq_1,q68R1.eq_1,q68R2.eq_1,q68R3.eq_1,q68R4.eq_1,q68R5.eq_1,q68R7.eq_1,q68R8.eq_1,q68R9.eq_1,q68R10.eq_1,q68R6.eq_1,q68R11.eq_1,q68R12.eq_1,c_slices_DeleteFunc_Typed.eq_1,key,hk1,hw,loop,hs,ml,hle,hc,f1,e1,e2,e3,List.set_set])
end

end Go.Proofs.Ytfnonledcniojaa
