/- What slices.IndexFunc, ContainsFunc and DeleteFunc come to, on their caller's rows. Conditions: as each statement says. -/
import Derived.Test.YthcnhibjddomdaaGreatCd
import Derived.Test.YthcnhibjddomdaaGreatM3
set_option linter.unusedVariables false
set_option linter.unusedSimpArgs false
set_option linter.unusedSectionVars false
set_option maxRecDepth 20000
set_option maxHeartbeats 1000000
namespace Go.Proofs.YthcnhibjddomdaaGreat
open Go
variable (G : Nat → Option (List AV))
theorem ids4 {N : Nat} {a b c d : Nat × AV} (h1 : ∀ i ∈ a.2.ids, i < N) (h2 : ∀ i ∈ b.2.ids, i < N) (h3 : ∀ i ∈ c.2.ids, i < N) (h4 : ∀ i ∈ d.2.ids, i < N) : ∀ p ∈ [a, b, c, d], ∀ i ∈ p.2.ids, i < N := by
  intro p hp
  simp only [List.mem_cons, List.not_mem_nil, or_false] at hp
  rcases hp with rfl | rfl | rfl | rfl <;> assumption
theorem headfn {s : AV} {ff : Nat} {fs cs : List AV} {hh : Nat → List ARow} {N : Nat} (hN : ∀ j, (hh j).length = N) (hC : ∀ j, ClosedH (hh j)) (hS : ∀ i ∈ s.ids, i < N) (hF : ∀ i ∈ AV.idsL fs ++ AV.idsL cs, i < N) (j : Nat) (n i : Int) :
    agc N [0, 1, 7, 8] ⟨[(0, s), (1, .fn (.func ff) fs cs), (7, .int .i64 n), (8, .int .i64 i)], hh j⟩ = some ⟨[(0, s), (1, .fn (.func ff) fs cs), (7, .int .i64 n), (8, .int .i64 i)], hh j⟩ := by
  have e : akeep [0, 1, 7, 8] [(0, s), (1, .fn (.func ff) fs cs), (7, .int .i64 n), (8, .int .i64 i)] = [(0, s), (1, .fn (.func ff) fs cs), (7, .int .i64 n), (8, .int .i64 i)] := by (sym => simp [Y9,Za,Zb,Ze])
  have := agc_inl (h := hh j) (live := [0, 1, 7, 8]) (env := [(0, s), (1, .fn (.func ff) fs cs), (7, .int .i64 n), (8, .int .i64 i)]) (hC j) (by rw [e, hN j]; exact ids4 hS (by simpa [AV.ids] using hF) (by simp [AV.ids]) (by simp [AV.ids]))
  rw [hN j, e] at this
  exact this
section
variable {α : Type} (l : List α) (vl : α → AV) (s : AV) (pt : Nat → AV) (ff : Nat) (fs cs : List AV) (p : Nat → Bool) (hh : Nat → List ARow) (N : Nat)
  (hN : ∀ j, (hh j).length = N) (hC : ∀ j, ClosedH (hh j)) (hS : ∀ i ∈ s.ids, i < N) (hF : ∀ i ∈ AV.idsL fs ++ AV.idsL cs, i < N) (hl : l.length < 9223372036854775807)
  (hlen : alen false s = some (.int .i64 l.length)) (hidx : ∀ j (i : Nat), i < l.length → aidx (hh j) 2 s (.int .i64 i) = some (pt i)) (hld : ∀ j (i : Nat) (h : i < l.length), aload (hh j) true 2 (pt i) = some (vl l[i]))
include hN hC hS hF hl hidx hld
include hlen
end


theorem contfn_Member (s f : AV) (h h' : List ARow) (n : Int) (hr : aR G FT n_slices_IndexFunc_Member [s, f] h = some (.int .i64 n, h')) : aR G FT n_slices_ContainsFunc_Member [s, f] h = some (.bool (decide (0 ≤ n)), h') := by
  rw [run_slices_ContainsFunc_Member]
  (sym => simp [Qb,Qd,Qe,Qi,Qj,Qm,Qn,Qo,Qr,Xa,Yd,Y1,Y5,Y7,Y9,Za,Zb,Zc,Ze,Zg,Zh,Zi,Zj,Zk,Zl,Zq,Zr,Zs,Zt,Zu,Zv,Zw,Jj,Jk,Jv,Jx,Be,q97R0.eq_1,q97R1.eq_1,c_slices_ContainsFunc_Member.eq_1,hr])


theorem headfnj {s : AV} {ff : Nat} {fs cs : List AV} {hh : Nat → List ARow} {N : Nat} (hN : ∀ j, (hh j).length = N) (hC : ∀ j, ClosedH (hh j)) (hS : ∀ i ∈ s.ids, i < N) (hF : ∀ i ∈ AV.idsL fs ++ AV.idsL cs, i < N) (j : Nat) (n i : Int) (e : List ARow) :
    agc N [0, 1, 7, 8] ⟨[(0, s), (1, .fn (.func ff) fs cs), (7, .int .i64 n), (8, .int .i64 i)], hh j ++ e⟩ = some ⟨[(0, s), (1, .fn (.func ff) fs cs), (7, .int .i64 n), (8, .int .i64 i)], hh j⟩ := by
  have e0 : akeep [0, 1, 7, 8] [(0, s), (1, .fn (.func ff) fs cs), (7, .int .i64 n), (8, .int .i64 i)] = [(0, s), (1, .fn (.func ff) fs cs), (7, .int .i64 n), (8, .int .i64 i)] := by (sym => simp [Y9,Za,Zb,Ze])
  have := agc_drop (h := hh j) (e := e) (live := [0, 1, 7, 8]) (env := [(0, s), (1, .fn (.func ff) fs cs), (7, .int .i64 n), (8, .int .i64 i)]) (hC j) (by rw [e0, hN j]; exact ids4 hS (by simpa [AV.ids] using hF) (by simp [AV.ids]) (by simp [AV.ids]))
  rw [hN j, e0] at this
  exact this


section
variable {α : Type} (l : List α) (vl : α → AV) (s : AV) (pt : Nat → AV) (ff : Nat) (fs cs : List AV) (p : Nat → Bool) (hh J : Nat → List ARow) (N : Nat)
  (hN : ∀ j, (hh j).length = N) (hC : ∀ j, ClosedH (hh j)) (hS : ∀ i ∈ s.ids, i < N) (hF : ∀ i ∈ AV.idsL fs ++ AV.idsL cs, i < N) (hl : l.length < 9223372036854775807)
  (hlen : alen false s = some (.int .i64 l.length)) (hidx : ∀ j (i : Nat), i < l.length → aidx (hh j) 2 s (.int .i64 i) = some (pt i)) (hld : ∀ j (i : Nat) (h : i < l.length), aload (hh j) true 2 (pt i) = some (vl l[i]))
include hN hC hS hF hl hidx hld
theorem idxj_Member_found_loop (k : Nat) (hk : k < l.length) (hp : ∀ i (h : i < l.length), i ≤ k → aR G FT ff (fs ++ [vl l[i]] ++ cs) (hh i) = some (.bool (p i), hh (i + 1) ++ J i)) (hpk : p k = true) (hpj : ∀ j, j < k → p j = false) : ∀ (m i : Nat), i + m = k → ∀ e,
    aE G FT N lp_slices_IndexFunc_Member_0 ⟨[(0, s), (1, .fn (.func ff) fs cs), (7, .int .i64 l.length), (8, .int .i64 i)], hh i ++ e⟩ = some (.ret, ⟨[(4, .int .i64 k)], hh (k + 1) ++ J k⟩) := by
  intro m
  induction m with
  | zero =>
    intro i hi e
    obtain rfl : i = k := by omega
    rw [lp_slices_IndexFunc_Member_0, y_loop, headfnj hN hC hS hF]
    have h1 := hidx i i hk
    have h2 := hld i i hk
    have h3 := hp i hk (Nat.le_refl _)
    rw [hpk] at h3
    have h4 : (i : Int) < l.length := by omega
    (sym => simp [Qb,Qc,Qd,Qe,Qi,Qj,Qm,Qn,Qp,Qq,Qr,Qt,Q4,Xa,Xs,X5,Ya,Y9,Za,Zb,Zc,Ze,Zg,Zh,Zt,Zv,Zw,Z3,Jj,Jk,Jl,Jn,Jo,Jp,Jr,Js,Jt,Jv,Nl,Be,q109R0.eq_1,q109R1.eq_1,q109R2.eq_1,q109R3.eq_1,q109R4.eq_1,q109R5.eq_1,q109R6.eq_1,q109R7.eq_1,c_slices_IndexFunc_Member.eq_1,c_slices_IndexFunc_Member_L0.eq_1,h1,h2,h3,h4])
  | succ m ih =>
    intro i hi e
    have ih := ih (i + 1) (by omega) (J i)
    have hil : i < l.length := by omega
    rw [lp_slices_IndexFunc_Member_0] at ih
    rw [lp_slices_IndexFunc_Member_0, y_loop, headfnj hN hC hS hF]
    have h1 := hidx i i hil
    have h2 := hld i i hil
    have h3 := hp i hil (by omega)
    rw [hpj i (by omega)] at h3
    have h4 : (i : Int) < l.length := by omega
    have hw := wrap_nat (n := i) (by omega)
    rw [← ih]
    (sym => simp [Qb,Qc,Qd,Qe,Qi,Qj,Qm,Qn,Qp,Qq,Qr,Qt,Q4,Xa,Xs,X5,Ya,Y9,Za,Zb,Zc,Ze,Zg,Zh,Zt,Zv,Zw,Z3,Jj,Jk,Jl,Jn,Jo,Jp,Jr,Js,Jt,Jv,Nl,Be,q109R0.eq_1,q109R1.eq_1,q109R2.eq_1,q109R3.eq_1,q109R4.eq_1,q109R5.eq_1,q109R6.eq_1,q109R7.eq_1,c_slices_IndexFunc_Member.eq_1,c_slices_IndexFunc_Member_L0.eq_1,h1,h2,h3,h4,hw])
theorem idxj_Member_none_loop (hp : ∀ i (h : i < l.length), aR G FT ff (fs ++ [vl l[i]] ++ cs) (hh i) = some (.bool (p i), hh (i + 1) ++ J i)) (hpj : ∀ j, j < l.length → p j = false) : ∀ (m i : Nat), i + m = l.length → ∀ e,
    aE G FT N lp_slices_IndexFunc_Member_0 ⟨[(0, s), (1, .fn (.func ff) fs cs), (7, .int .i64 l.length), (8, .int .i64 i)], hh i ++ e⟩ = some (.exit 0, ⟨[(0, s), (1, .fn (.func ff) fs cs), (7, .int .i64 l.length), (8, .int .i64 l.length), (9, .bool false)], hh l.length⟩) := by
  intro m
  induction m with
  | zero =>
    intro i hi e
    obtain rfl : i = l.length := by omega
    rw [lp_slices_IndexFunc_Member_0, y_loop, headfnj hN hC hS hF]
    have h4 : ¬ (l.length : Int) < l.length := by omega
    (sym => simp [Qa,Qc,Qd,Qe,Qi,Qj,Qm,Qn,Qp,Qq,Qr,Qt,Q4,Xa,Xs,X5,Ya,Y9,Za,Zb,Zc,Ze,Zg,Zh,Zt,Zv,Zw,Z3,Jj,Jk,Jm,Jn,Jo,Jr,Js,Ju,Jv,Nl,Nm,Be,q109R0.eq_1,q109R1.eq_1,q109R2.eq_1,q109R3.eq_1,q109R4.eq_1,q109R5.eq_1,q109R6.eq_1,q109R7.eq_1,c_slices_IndexFunc_Member.eq_1,c_slices_IndexFunc_Member_L0.eq_1,h4])
  | succ m ih =>
    intro i hi e
    have ih := ih (i + 1) (by omega) (J i)
    have hil : i < l.length := by omega
    rw [lp_slices_IndexFunc_Member_0] at ih
    rw [lp_slices_IndexFunc_Member_0, y_loop, headfnj hN hC hS hF]
    have h1 := hidx i i hil
    have h2 := hld i i hil
    have h3 := hp i hil
    rw [hpj i (by omega)] at h3
    have h4 : (i : Int) < l.length := by omega
    have hw := wrap_nat (n := i) (by omega)
    rw [← ih]
    (sym => simp [Qa,Qc,Qd,Qe,Qi,Qj,Qm,Qn,Qp,Qq,Qr,Qt,Q4,Xa,Xs,X5,Ya,Y9,Za,Zb,Zc,Ze,Zg,Zh,Zt,Zv,Zw,Z3,Jj,Jk,Jm,Jn,Jo,Jr,Js,Ju,Jv,Nl,Nm,Be,q109R0.eq_1,q109R1.eq_1,q109R2.eq_1,q109R3.eq_1,q109R4.eq_1,q109R5.eq_1,q109R6.eq_1,q109R7.eq_1,c_slices_IndexFunc_Member.eq_1,c_slices_IndexFunc_Member_L0.eq_1,h1,h2,h3,h4,hw])
include hlen
theorem idxj_Member_found (k : Nat) (hk : k < l.length) (hp : ∀ i (h : i < l.length), i ≤ k → aR G FT ff (fs ++ [vl l[i]] ++ cs) (hh i) = some (.bool (p i), hh (i + 1) ++ J i)) (hpk : p k = true) (hpj : ∀ j, j < k → p j = false) :
    aR G FT n_slices_IndexFunc_Member [s, .fn (.func ff) fs cs] (hh 0) = some (.int .i64 k, hh (k + 1) ++ J k) := by
  have key := idxj_Member_found_loop G l vl s pt ff fs cs p hh J N hN hC hS hF hl hidx hld k hk hp hpk hpj k 0 (by omega) []
  simp only [Int.natCast_zero, List.append_nil] at key
  rw [run_slices_IndexFunc_Member, hN 0]
  (sym => simp [Qd,Qe,Qi,Qj,Qr,Xy,Y1,Y5,Y7,Y9,Za,Zb,Zc,Ze,Zg,Zh,Zi,Zj,Zk,Zl,Zr,Zs,Zt,Zu,Zv,Zw,Jj,Jk,Jl,Jn,Jp,Jv,Jx,Be,q109R0.eq_1,q109R1.eq_1,q109R2.eq_1,q109R3.eq_1,q109R4.eq_1,q109R5.eq_1,q109R6.eq_1,q109R7.eq_1,c_slices_IndexFunc_Member.eq_1,hlen,key])
theorem idxj_Member_none (hp : ∀ i (h : i < l.length), aR G FT ff (fs ++ [vl l[i]] ++ cs) (hh i) = some (.bool (p i), hh (i + 1) ++ J i)) (hpj : ∀ j, j < l.length → p j = false) :
    aR G FT n_slices_IndexFunc_Member [s, .fn (.func ff) fs cs] (hh 0) = some (.int .i64 (-1), hh l.length) := by
  have key := idxj_Member_none_loop G l vl s pt ff fs cs p hh J N hN hC hS hF hl hidx hld hp hpj l.length 0 (by omega) []
  simp only [Int.natCast_zero, List.append_nil] at key
  rw [run_slices_IndexFunc_Member, hN 0]
  (sym => simp [Qb,Qd,Qe,Qi,Qj,Qr,Xy,Y1,Y5,Y7,Y9,Za,Zb,Zc,Ze,Zg,Zh,Zi,Zj,Zk,Zl,Zr,Zs,Zt,Zu,Zv,Zw,Jj,Jk,Jn,Jq,Jv,Jx,Be,q109R0.eq_1,q109R1.eq_1,q109R2.eq_1,q109R3.eq_1,q109R4.eq_1,q109R5.eq_1,q109R6.eq_1,q109R7.eq_1,c_slices_IndexFunc_Member.eq_1,hlen,key])
end


section
variable {α : Type} (cl : α → List AV) (z0 : α) (hz : cl z0 = [.int .i64 0, .int .i64 0]) (hcl : ∀ x, (cl x).length = 2) (hst : ∀ x, AV.stableL (cl x) = true)
variable (l : List α) (id g c ff : Nat) (fs cs : List AV) (p : α → Bool) (h : List ARow) (hid : id < h.length) (hC : ClosedH h) (hF : ∀ i ∈ AV.idsL fs ++ AV.idsL cs, i < h.length) (hl : l.length < 1000000) (hc : l.length ≤ c)
  (J : α → List ARow) (hp : ∀ R x e, aR G FT ff (fs ++ [AV.agg (cl x)] ++ cs) (h.set id ⟨2, g, true, List.map cl R⟩ ++ e) = some (.bool (p x), h.set id ⟨2, g, true, List.map cl R⟩ ++ (e ++ J x)))
include hid hC hF hl hp hcl hst
end


section
variable {α : Type} (cl : α → List AV) (z0 : α) (hz : cl z0 = [.int .i64 0, .int .i64 0]) (hcl : ∀ x, (cl x).length = 2) (hst : ∀ x, AV.stableL (cl x) = true)
variable (l : List α) (id g c ff : Nat) (fs cs : List AV) (p : α → Bool) (h : List ARow) (hid : id < h.length) (hC : ClosedH h) (hF : ∀ i ∈ AV.idsL fs ++ AV.idsL cs, i < h.length) (hl : l.length < 1000000) (hc : l.length ≤ c)
  (J : α → List ARow) (hp : ∀ R x e, aR G FT ff (fs ++ [AV.agg (cl x)] ++ cs) (h.set id ⟨2, g, true, List.map cl R⟩ ++ e) = some (.bool (p x), h.set id ⟨2, g, true, List.map cl R⟩ ++ (e ++ J x)))
include hid hC hF hl hp hcl hst hz hc
end


section
variable {α : Type} (l : List α) (vl : α → AV) (s : AV) (pt : Nat → AV) (ff : Nat) (fs cs : List AV) (p : Nat → Bool) (hh : Nat → List ARow) (N : Nat)
  (hN : ∀ j, (hh j).length = N) (hC : ∀ j, ClosedH (hh j)) (hS : ∀ i ∈ s.ids, i < N) (hF : ∀ i ∈ AV.idsL fs ++ AV.idsL cs, i < N) (hl : l.length < 9223372036854775807)
  (hlen : alen false s = some (.int .i64 l.length)) (hidx : ∀ j (i : Nat), i < l.length → aidx (hh j) 1 s (.int .i64 i) = some (pt i)) (hld : ∀ j (i : Nat) (h : i < l.length), aload (hh j) false 1 (pt i) = some (vl l[i]))
include hN hC hS hF hl hidx hld
theorem idxfn_int_found_loop (k : Nat) (hk : k < l.length) (hp : ∀ i (h : i < l.length), i ≤ k → aR G FT ff (fs ++ [vl l[i]] ++ cs) (hh i) = some (.bool (p i), hh (i + 1))) (hpk : p k = true) (hpj : ∀ j, j < k → p j = false) : ∀ (m i : Nat), i + m = k →
    aE G FT N lp_slices_IndexFunc_int_0 ⟨[(0, s), (1, .fn (.func ff) fs cs), (7, .int .i64 l.length), (8, .int .i64 i)], hh i⟩ = some (.ret, ⟨[(4, .int .i64 k)], hh (k + 1)⟩) := by
  intro m
  induction m with
  | zero =>
    intro i hi
    obtain rfl : i = k := by omega
    rw [lp_slices_IndexFunc_int_0, y_loop, headfn hN hC hS hF]
    have h1 := hidx i i hk
    have h2 := hld i i hk
    have h3 := hp i hk (Nat.le_refl _)
    rw [hpk] at h3
    have h4 : (i : Int) < l.length := by omega
    (sym => simp [Qb,Qc,Qd,Qe,Qi,Qj,Qm,Qn,Qp,Qq,Qr,Qt,Q4,Xa,Xs,X5,Ya,Y9,Za,Zb,Zc,Ze,Zg,Zh,Zt,Zv,Zw,Z3,Jj,Jk,Jl,Jn,Jo,Jp,Jr,Js,Jt,Jv,Nl,Be,q111R0.eq_1,q111R1.eq_1,q111R2.eq_1,q111R3.eq_1,q111R4.eq_1,q111R5.eq_1,q111R6.eq_1,q111R7.eq_1,c_slices_IndexFunc_int.eq_1,c_slices_IndexFunc_int_L0.eq_1,h1,h2,h3,h4])
  | succ m ih =>
    intro i hi
    have ih := ih (i + 1) (by omega)
    have hil : i < l.length := by omega
    rw [lp_slices_IndexFunc_int_0] at ih
    rw [lp_slices_IndexFunc_int_0, y_loop, headfn hN hC hS hF]
    have h1 := hidx i i hil
    have h2 := hld i i hil
    have h3 := hp i hil (by omega)
    rw [hpj i (by omega)] at h3
    have h4 : (i : Int) < l.length := by omega
    have hw := wrap_nat (n := i) (by omega)
    rw [← ih]
    (sym => simp [Qb,Qc,Qd,Qe,Qi,Qj,Qm,Qn,Qp,Qq,Qr,Qt,Q4,Xa,Xs,X5,Ya,Y9,Za,Zb,Zc,Ze,Zg,Zh,Zt,Zv,Zw,Z3,Jj,Jk,Jl,Jn,Jo,Jp,Jr,Js,Jt,Jv,Nl,Be,q111R0.eq_1,q111R1.eq_1,q111R2.eq_1,q111R3.eq_1,q111R4.eq_1,q111R5.eq_1,q111R6.eq_1,q111R7.eq_1,c_slices_IndexFunc_int.eq_1,c_slices_IndexFunc_int_L0.eq_1,h1,h2,h3,h4,hw])
theorem idxfn_int_none_loop (hp : ∀ i (h : i < l.length), aR G FT ff (fs ++ [vl l[i]] ++ cs) (hh i) = some (.bool (p i), hh (i + 1))) (hpj : ∀ j, j < l.length → p j = false) : ∀ (m i : Nat), i + m = l.length →
    aE G FT N lp_slices_IndexFunc_int_0 ⟨[(0, s), (1, .fn (.func ff) fs cs), (7, .int .i64 l.length), (8, .int .i64 i)], hh i⟩ = some (.exit 0, ⟨[(0, s), (1, .fn (.func ff) fs cs), (7, .int .i64 l.length), (8, .int .i64 l.length), (9, .bool false)], hh l.length⟩) := by
  intro m
  induction m with
  | zero =>
    intro i hi
    obtain rfl : i = l.length := by omega
    rw [lp_slices_IndexFunc_int_0, y_loop, headfn hN hC hS hF]
    have h4 : ¬ (l.length : Int) < l.length := by omega
    (sym => simp [Qa,Qc,Qd,Qe,Qi,Qj,Qm,Qn,Qp,Qq,Qr,Qt,Q4,Xa,Xs,X5,Ya,Y9,Za,Zb,Zc,Ze,Zg,Zh,Zt,Zv,Zw,Z3,Jj,Jk,Jm,Jn,Jo,Jr,Js,Ju,Jv,Nl,Nm,Be,q111R0.eq_1,q111R1.eq_1,q111R2.eq_1,q111R3.eq_1,q111R4.eq_1,q111R5.eq_1,q111R6.eq_1,q111R7.eq_1,c_slices_IndexFunc_int.eq_1,c_slices_IndexFunc_int_L0.eq_1,h4])
  | succ m ih =>
    intro i hi
    have ih := ih (i + 1) (by omega)
    have hil : i < l.length := by omega
    rw [lp_slices_IndexFunc_int_0] at ih
    rw [lp_slices_IndexFunc_int_0, y_loop, headfn hN hC hS hF]
    have h1 := hidx i i hil
    have h2 := hld i i hil
    have h3 := hp i hil
    rw [hpj i (by omega)] at h3
    have h4 : (i : Int) < l.length := by omega
    have hw := wrap_nat (n := i) (by omega)
    rw [← ih]
    (sym => simp [Qa,Qc,Qd,Qe,Qi,Qj,Qm,Qn,Qp,Qq,Qr,Qt,Q4,Xa,Xs,X5,Ya,Y9,Za,Zb,Zc,Ze,Zg,Zh,Zt,Zv,Zw,Z3,Jj,Jk,Jm,Jn,Jo,Jr,Js,Ju,Jv,Nl,Nm,Be,q111R0.eq_1,q111R1.eq_1,q111R2.eq_1,q111R3.eq_1,q111R4.eq_1,q111R5.eq_1,q111R6.eq_1,q111R7.eq_1,c_slices_IndexFunc_int.eq_1,c_slices_IndexFunc_int_L0.eq_1,h1,h2,h3,h4,hw])
include hlen
theorem idxfn_int_found (k : Nat) (hk : k < l.length) (hp : ∀ i (h : i < l.length), i ≤ k → aR G FT ff (fs ++ [vl l[i]] ++ cs) (hh i) = some (.bool (p i), hh (i + 1))) (hpk : p k = true) (hpj : ∀ j, j < k → p j = false) :
    aR G FT n_slices_IndexFunc_int [s, .fn (.func ff) fs cs] (hh 0) = some (.int .i64 k, hh (k + 1)) := by
  have key := idxfn_int_found_loop G l vl s pt ff fs cs p hh N hN hC hS hF hl hidx hld k hk hp hpk hpj k 0 (by omega)
  simp only [Int.natCast_zero] at key
  rw [run_slices_IndexFunc_int, hN 0]
  (sym => simp [Qd,Qe,Qi,Qj,Qr,Xy,Y1,Y5,Y7,Y9,Za,Zb,Zc,Ze,Zg,Zh,Zi,Zj,Zk,Zl,Zr,Zs,Zt,Zu,Zv,Zw,Jj,Jk,Jl,Jn,Jp,Jv,Jx,Be,q111R0.eq_1,q111R1.eq_1,q111R2.eq_1,q111R3.eq_1,q111R4.eq_1,q111R5.eq_1,q111R6.eq_1,q111R7.eq_1,c_slices_IndexFunc_int.eq_1,hlen,key])
theorem idxfn_int_none (hp : ∀ i (h : i < l.length), aR G FT ff (fs ++ [vl l[i]] ++ cs) (hh i) = some (.bool (p i), hh (i + 1))) (hpj : ∀ j, j < l.length → p j = false) :
    aR G FT n_slices_IndexFunc_int [s, .fn (.func ff) fs cs] (hh 0) = some (.int .i64 (-1), hh l.length) := by
  have key := idxfn_int_none_loop G l vl s pt ff fs cs p hh N hN hC hS hF hl hidx hld hp hpj l.length 0 (by omega)
  simp only [Int.natCast_zero] at key
  rw [run_slices_IndexFunc_int, hN 0]
  (sym => simp [Qb,Qd,Qe,Qi,Qj,Qr,Xy,Y1,Y5,Y7,Y9,Za,Zb,Zc,Ze,Zg,Zh,Zi,Zj,Zk,Zl,Zr,Zs,Zt,Zu,Zv,Zw,Jj,Jk,Jn,Jq,Jv,Jx,Be,q111R0.eq_1,q111R1.eq_1,q111R2.eq_1,q111R3.eq_1,q111R4.eq_1,q111R5.eq_1,q111R6.eq_1,q111R7.eq_1,c_slices_IndexFunc_int.eq_1,hlen,key])
end


theorem contfn_int (s f : AV) (h h' : List ARow) (n : Int) (hr : aR G FT n_slices_IndexFunc_int [s, f] h = some (.int .i64 n, h')) : aR G FT n_slices_ContainsFunc_int [s, f] h = some (.bool (decide (0 ≤ n)), h') := by
  rw [run_slices_ContainsFunc_int]
  (sym => simp [Qb,Qd,Qe,Qi,Qj,Qm,Qn,Qo,Qr,Xa,Yd,Y1,Y5,Y7,Y9,Za,Zb,Zc,Ze,Zg,Zh,Zi,Zj,Zk,Zl,Zq,Zr,Zs,Zt,Zu,Zv,Zw,Jj,Jk,Jv,Jx,Be,q99R0.eq_1,q99R1.eq_1,c_slices_ContainsFunc_int.eq_1,hr])


section
variable (l : List Int) (id g c ff : Nat) (fs cs : List AV) (p : Int → Bool) (h : List ARow) (hid : id < h.length) (hC : ClosedH h) (hF : ∀ i ∈ AV.idsL fs ++ AV.idsL cs, i < h.length) (hl : l.length < 1000000) (hc : l.length ≤ c)
  (hp : ∀ R x, aR G FT ff (fs ++ [AV.int .i64 x] ++ cs) (h.set id ⟨1, g, true, ints R⟩) = some (.bool (p x), h.set id ⟨1, g, true, ints R⟩))
include hid hC hF hl hp
include hc
end


section
variable {α : Type} (l : List α) (vl : α → AV) (s : AV) (pt : Nat → AV) (ff : Nat) (fs cs : List AV) (p : Nat → Bool) (hh : Nat → List ARow) (N : Nat)
  (hN : ∀ j, (hh j).length = N) (hC : ∀ j, ClosedH (hh j)) (hS : ∀ i ∈ s.ids, i < N) (hF : ∀ i ∈ AV.idsL fs ++ AV.idsL cs, i < N) (hl : l.length < 9223372036854775807)
  (hlen : alen false s = some (.int .i64 l.length)) (hidx : ∀ j (i : Nat), i < l.length → aidx (hh j) 3 s (.int .i64 i) = some (pt i)) (hld : ∀ j (i : Nat) (h : i < l.length), aload (hh j) true 3 (pt i) = some (vl l[i]))
include hN hC hS hF hl hidx hld
include hlen
end


theorem contfn_Typed (s f : AV) (h h' : List ARow) (n : Int) (hr : aR G FT n_slices_IndexFunc_Typed [s, f] h = some (.int .i64 n, h')) : aR G FT n_slices_ContainsFunc_Typed [s, f] h = some (.bool (decide (0 ≤ n)), h') := by
  rw [run_slices_ContainsFunc_Typed]
  (sym => simp [Qb,Qd,Qe,Qi,Qj,Qm,Qn,Qo,Qr,Xa,Yd,Y1,Y5,Y7,Y9,Za,Zb,Zc,Ze,Zg,Zh,Zi,Zj,Zk,Zl,Zq,Zr,Zs,Zt,Zu,Zv,Zw,Jj,Jk,Jv,Jx,Be,q98R0.eq_1,q98R1.eq_1,c_slices_ContainsFunc_Typed.eq_1,hr])


section
variable {α : Type} (l : List α) (vl : α → AV) (s : AV) (pt : Nat → AV) (ff : Nat) (fs cs : List AV) (p : Nat → Bool) (hh J : Nat → List ARow) (N : Nat)
  (hN : ∀ j, (hh j).length = N) (hC : ∀ j, ClosedH (hh j)) (hS : ∀ i ∈ s.ids, i < N) (hF : ∀ i ∈ AV.idsL fs ++ AV.idsL cs, i < N) (hl : l.length < 9223372036854775807)
  (hlen : alen false s = some (.int .i64 l.length)) (hidx : ∀ j (i : Nat), i < l.length → aidx (hh j) 3 s (.int .i64 i) = some (pt i)) (hld : ∀ j (i : Nat) (h : i < l.length), aload (hh j) true 3 (pt i) = some (vl l[i]))
include hN hC hS hF hl hidx hld
theorem idxj_Typed_found_loop (k : Nat) (hk : k < l.length) (hp : ∀ i (h : i < l.length), i ≤ k → aR G FT ff (fs ++ [vl l[i]] ++ cs) (hh i) = some (.bool (p i), hh (i + 1) ++ J i)) (hpk : p k = true) (hpj : ∀ j, j < k → p j = false) : ∀ (m i : Nat), i + m = k → ∀ e,
    aE G FT N lp_slices_IndexFunc_Typed_0 ⟨[(0, s), (1, .fn (.func ff) fs cs), (7, .int .i64 l.length), (8, .int .i64 i)], hh i ++ e⟩ = some (.ret, ⟨[(4, .int .i64 k)], hh (k + 1) ++ J k⟩) := by
  intro m
  induction m with
  | zero =>
    intro i hi e
    obtain rfl : i = k := by omega
    rw [lp_slices_IndexFunc_Typed_0, y_loop, headfnj hN hC hS hF]
    have h1 := hidx i i hk
    have h2 := hld i i hk
    have h3 := hp i hk (Nat.le_refl _)
    rw [hpk] at h3
    have h4 : (i : Int) < l.length := by omega
    (sym => simp [Qb,Qc,Qd,Qe,Qi,Qj,Qm,Qn,Qp,Qq,Qr,Qt,Q4,Xa,Xs,X5,Ya,Y9,Za,Zb,Zc,Ze,Zg,Zh,Zt,Zv,Zw,Z3,Jj,Jk,Jl,Jn,Jo,Jp,Jr,Js,Jt,Jv,Nl,Be,q110R0.eq_1,q110R1.eq_1,q110R2.eq_1,q110R3.eq_1,q110R4.eq_1,q110R5.eq_1,q110R6.eq_1,q110R7.eq_1,c_slices_IndexFunc_Typed.eq_1,c_slices_IndexFunc_Typed_L0.eq_1,h1,h2,h3,h4])
  | succ m ih =>
    intro i hi e
    have ih := ih (i + 1) (by omega) (J i)
    have hil : i < l.length := by omega
    rw [lp_slices_IndexFunc_Typed_0] at ih
    rw [lp_slices_IndexFunc_Typed_0, y_loop, headfnj hN hC hS hF]
    have h1 := hidx i i hil
    have h2 := hld i i hil
    have h3 := hp i hil (by omega)
    rw [hpj i (by omega)] at h3
    have h4 : (i : Int) < l.length := by omega
    have hw := wrap_nat (n := i) (by omega)
    rw [← ih]
    (sym => simp [Qb,Qc,Qd,Qe,Qi,Qj,Qm,Qn,Qp,Qq,Qr,Qt,Q4,Xa,Xs,X5,Ya,Y9,Za,Zb,Zc,Ze,Zg,Zh,Zt,Zv,Zw,Z3,Jj,Jk,Jl,Jn,Jo,Jp,Jr,Js,Jt,Jv,Nl,Be,q110R0.eq_1,q110R1.eq_1,q110R2.eq_1,q110R3.eq_1,q110R4.eq_1,q110R5.eq_1,q110R6.eq_1,q110R7.eq_1,c_slices_IndexFunc_Typed.eq_1,c_slices_IndexFunc_Typed_L0.eq_1,h1,h2,h3,h4,hw])
theorem idxj_Typed_none_loop (hp : ∀ i (h : i < l.length), aR G FT ff (fs ++ [vl l[i]] ++ cs) (hh i) = some (.bool (p i), hh (i + 1) ++ J i)) (hpj : ∀ j, j < l.length → p j = false) : ∀ (m i : Nat), i + m = l.length → ∀ e,
    aE G FT N lp_slices_IndexFunc_Typed_0 ⟨[(0, s), (1, .fn (.func ff) fs cs), (7, .int .i64 l.length), (8, .int .i64 i)], hh i ++ e⟩ = some (.exit 0, ⟨[(0, s), (1, .fn (.func ff) fs cs), (7, .int .i64 l.length), (8, .int .i64 l.length), (9, .bool false)], hh l.length⟩) := by
  intro m
  induction m with
  | zero =>
    intro i hi e
    obtain rfl : i = l.length := by omega
    rw [lp_slices_IndexFunc_Typed_0, y_loop, headfnj hN hC hS hF]
    have h4 : ¬ (l.length : Int) < l.length := by omega
    (sym => simp [Qa,Qc,Qd,Qe,Qi,Qj,Qm,Qn,Qp,Qq,Qr,Qt,Q4,Xa,Xs,X5,Ya,Y9,Za,Zb,Zc,Ze,Zg,Zh,Zt,Zv,Zw,Z3,Jj,Jk,Jm,Jn,Jo,Jr,Js,Ju,Jv,Nl,Nm,Be,q110R0.eq_1,q110R1.eq_1,q110R2.eq_1,q110R3.eq_1,q110R4.eq_1,q110R5.eq_1,q110R6.eq_1,q110R7.eq_1,c_slices_IndexFunc_Typed.eq_1,c_slices_IndexFunc_Typed_L0.eq_1,h4])
  | succ m ih =>
    intro i hi e
    have ih := ih (i + 1) (by omega) (J i)
    have hil : i < l.length := by omega
    rw [lp_slices_IndexFunc_Typed_0] at ih
    rw [lp_slices_IndexFunc_Typed_0, y_loop, headfnj hN hC hS hF]
    have h1 := hidx i i hil
    have h2 := hld i i hil
    have h3 := hp i hil
    rw [hpj i (by omega)] at h3
    have h4 : (i : Int) < l.length := by omega
    have hw := wrap_nat (n := i) (by omega)
    rw [← ih]
    (sym => simp [Qa,Qc,Qd,Qe,Qi,Qj,Qm,Qn,Qp,Qq,Qr,Qt,Q4,Xa,Xs,X5,Ya,Y9,Za,Zb,Zc,Ze,Zg,Zh,Zt,Zv,Zw,Z3,Jj,Jk,Jm,Jn,Jo,Jr,Js,Ju,Jv,Nl,Nm,Be,q110R0.eq_1,q110R1.eq_1,q110R2.eq_1,q110R3.eq_1,q110R4.eq_1,q110R5.eq_1,q110R6.eq_1,q110R7.eq_1,c_slices_IndexFunc_Typed.eq_1,c_slices_IndexFunc_Typed_L0.eq_1,h1,h2,h3,h4,hw])
include hlen
theorem idxj_Typed_found (k : Nat) (hk : k < l.length) (hp : ∀ i (h : i < l.length), i ≤ k → aR G FT ff (fs ++ [vl l[i]] ++ cs) (hh i) = some (.bool (p i), hh (i + 1) ++ J i)) (hpk : p k = true) (hpj : ∀ j, j < k → p j = false) :
    aR G FT n_slices_IndexFunc_Typed [s, .fn (.func ff) fs cs] (hh 0) = some (.int .i64 k, hh (k + 1) ++ J k) := by
  have key := idxj_Typed_found_loop G l vl s pt ff fs cs p hh J N hN hC hS hF hl hidx hld k hk hp hpk hpj k 0 (by omega) []
  simp only [Int.natCast_zero, List.append_nil] at key
  rw [run_slices_IndexFunc_Typed, hN 0]
  (sym => simp [Qd,Qe,Qi,Qj,Qr,Xy,Y1,Y5,Y7,Y9,Za,Zb,Zc,Ze,Zg,Zh,Zi,Zj,Zk,Zl,Zr,Zs,Zt,Zu,Zv,Zw,Jj,Jk,Jl,Jn,Jp,Jv,Jx,Be,q110R0.eq_1,q110R1.eq_1,q110R2.eq_1,q110R3.eq_1,q110R4.eq_1,q110R5.eq_1,q110R6.eq_1,q110R7.eq_1,c_slices_IndexFunc_Typed.eq_1,hlen,key])
theorem idxj_Typed_none (hp : ∀ i (h : i < l.length), aR G FT ff (fs ++ [vl l[i]] ++ cs) (hh i) = some (.bool (p i), hh (i + 1) ++ J i)) (hpj : ∀ j, j < l.length → p j = false) :
    aR G FT n_slices_IndexFunc_Typed [s, .fn (.func ff) fs cs] (hh 0) = some (.int .i64 (-1), hh l.length) := by
  have key := idxj_Typed_none_loop G l vl s pt ff fs cs p hh J N hN hC hS hF hl hidx hld hp hpj l.length 0 (by omega) []
  simp only [Int.natCast_zero, List.append_nil] at key
  rw [run_slices_IndexFunc_Typed, hN 0]
  (sym => simp [Qb,Qd,Qe,Qi,Qj,Qr,Xy,Y1,Y5,Y7,Y9,Za,Zb,Zc,Ze,Zg,Zh,Zi,Zj,Zk,Zl,Zr,Zs,Zt,Zu,Zv,Zw,Jj,Jk,Jn,Jq,Jv,Jx,Be,q110R0.eq_1,q110R1.eq_1,q110R2.eq_1,q110R3.eq_1,q110R4.eq_1,q110R5.eq_1,q110R6.eq_1,q110R7.eq_1,c_slices_IndexFunc_Typed.eq_1,hlen,key])
end


section
variable {α : Type} (cl : α → List AV) (z0 : α) (hz : cl z0 = [.int .i64 0, .int .i64 0, .data false 1 [] true]) (hcl : ∀ x, (cl x).length = 3) (hst : ∀ x, AV.stableL (cl x) = true)
variable (l : List α) (id g c ff : Nat) (fs cs : List AV) (p : α → Bool) (h : List ARow) (hid : id < h.length) (hC : ClosedH h) (hF : ∀ i ∈ AV.idsL fs ++ AV.idsL cs, i < h.length) (hl : l.length < 1000000) (hc : l.length ≤ c)
  (J : α → List ARow) (hp : ∀ R x e, aR G FT ff (fs ++ [AV.agg (cl x)] ++ cs) (h.set id ⟨3, g, true, List.map cl R⟩ ++ e) = some (.bool (p x), h.set id ⟨3, g, true, List.map cl R⟩ ++ (e ++ J x)))
include hid hC hF hl hp hcl hst
end


section
variable {α : Type} (cl : α → List AV) (z0 : α) (hz : cl z0 = [.int .i64 0, .int .i64 0, .data false 1 [] true]) (hcl : ∀ x, (cl x).length = 3) (hst : ∀ x, AV.stableL (cl x) = true)
variable (l : List α) (id g c ff : Nat) (fs cs : List AV) (p : α → Bool) (h : List ARow) (hid : id < h.length) (hC : ClosedH h) (hF : ∀ i ∈ AV.idsL fs ++ AV.idsL cs, i < h.length) (hl : l.length < 1000000) (hc : l.length ≤ c)
  (J : α → List ARow) (hp : ∀ R x e, aR G FT ff (fs ++ [AV.agg (cl x)] ++ cs) (h.set id ⟨3, g, true, List.map cl R⟩ ++ e) = some (.bool (p x), h.set id ⟨3, g, true, List.map cl R⟩ ++ (e ++ J x)))
include hid hC hF hl hp hcl hst hz hc
end


section
variable {α : Type} (l : List α) (vl : α → AV) (s : AV) (pt : Nat → AV) (ff : Nat) (fs cs : List AV) (p : Nat → Bool) (hh : Nat → List ARow) (N : Nat)
  (hN : ∀ j, (hh j).length = N) (hC : ∀ j, ClosedH (hh j)) (hS : ∀ i ∈ s.ids, i < N) (hF : ∀ i ∈ AV.idsL fs ++ AV.idsL cs, i < N) (hl : l.length < 9223372036854775807)
  (hlen : alen false s = some (.int .i64 l.length)) (hidx : ∀ j (i : Nat), i < l.length → aidx (hh j) 4 s (.int .i64 i) = some (pt i)) (hld : ∀ j (i : Nat) (h : i < l.length), aload (hh j) true 4 (pt i) = some (vl l[i]))
include hN hC hS hF hl hidx hld
include hlen
end


section
variable {α : Type} (l : List α) (vl : α → AV) (s : AV) (pt : Nat → AV) (ff : Nat) (fs cs : List AV) (p : Nat → Bool) (hh J : Nat → List ARow) (N : Nat)
  (hN : ∀ j, (hh j).length = N) (hC : ∀ j, ClosedH (hh j)) (hS : ∀ i ∈ s.ids, i < N) (hF : ∀ i ∈ AV.idsL fs ++ AV.idsL cs, i < N) (hl : l.length < 9223372036854775807)
  (hlen : alen false s = some (.int .i64 l.length)) (hidx : ∀ j (i : Nat), i < l.length → aidx (hh j) 4 s (.int .i64 i) = some (pt i)) (hld : ∀ j (i : Nat) (h : i < l.length), aload (hh j) true 4 (pt i) = some (vl l[i]))
include hN hC hS hF hl hidx hld
include hlen
end

end Go.Proofs.YthcnhibjddomdaaGreat
