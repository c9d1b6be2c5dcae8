/- A call over a row that names at most one row of the call's own. Conditions: as each statement says. -/
import Derived.Test.YtkkcblfoaldckaaM3
set_option linter.unusedVariables false
set_option linter.unusedSimpArgs false
set_option linter.unusedSectionVars false
namespace Go.Proofs.Ytkkcblfoaldckaa
open Go
theorem reach_one {h : List ARow} {p : Nat} {r : ARow} (hp : h[p]? = some r) (hi : r.ids = []) : areach h 0 64 [p] [] = [p] := by
  rw [areach, if_neg (by simp), hp]
  simp only [hi]
  rfl
theorem reach_two {h : List ARow} {p q : Nat} {r r2 : ARow} (hp : h[p]? = some r) (hi : r.ids = [q]) (hq : q ≠ p) (h2 : h[q]? = some r2) (hi2 : r2.ids = []) : areach h 0 64 [p] [] = [p, q] := by
  rw [areach, if_neg (by simp), hp]
  simp only [hi, List.nil_append]
  rw [areach, if_neg (by simp [hq]), h2]
  simp only [hi2]
  rfl
/-- A row that names at most one row of the call's own: how it looks where that one lies at i. -/
structure RootF where
  k : Nat
  k1 : Nat
  has : Bool
  es : List (List AV)
  f : Nat → Nat → ARow
structure RootF.Ok (X : RootF) : Prop where
  ids : ∀ i g, ARow.ids (X.f i g) = if X.has = true then [i] else []
  gen : ∀ i g, (X.f i g).gen = 0
  kk : ∀ i g, (X.f i g).k = X.k
  ren : ∀ (h : List ARow) (order : List Nat) (i j g : Nat), (X.has = true → (∃ r, h[i]? = some r ∧ r.gen = g) ∧ order.idxOf? i = some j) → { (X.f i g).ren h 0 0 order with gen := 0 } = X.f j 0
  mapid : ∀ (m : Nat → Option (Nat × Nat)) (i g : Nat) (i' : Nat × Nat), (X.has = true → m i = some i') → { (X.f i g).mapid m with gen := 0 } = X.f i'.1 (i'.2 + g)
  clean : ∀ i g, (X.f i g).cleanB = true
theorem flat_ids (k g : Nat) (es : List (List AV)) : ARow.ids ⟨k, g, true, es⟩ = [] := rfl
theorem iso_root (raw : ARaw) (fn : Nat) (a : AV) (ha : a.ids = []) (hr : ∀ h low off o, a.ren h low off o = a) (X Y : RootF) (hX : X.Ok) (hY : Y.Ok) (hk : X.k = Y.k) (hk1 : X.k1 = Y.k1) (h : List ARow) (p q gq : Nat) (hp : h[p]? = some (X.f q gq))
    (hq : X.has = true → q ≠ p ∧ h[q]? = some ⟨X.k1, gq, true, X.es⟩) (v : AV) (hv : v.ids = []) (hvc : v.clean = true) (hvm : ∀ m, v.mapid m = v) (i g : Nat) (R : List ARow)
    (hraw : raw fn [.ptr 0 0 0 0, a] (X.f 1 0 :: if X.has = true then [⟨X.k1, 0, true, X.es⟩] else []) = some (v, Y.f i g :: R)) (hy : Y.has = true → 1 ≤ i ∧ (Y.f i g :: R)[i]? = some ⟨Y.k1, g, true, Y.es⟩) :
    ∃ h' i' g', aiso raw fn [.ptr p 0 0 0, a] h = some (v, h') ∧ h'[p]? = some (Y.f i' g') ∧ (Y.has = true → i' ≠ p ∧ (X.has = true ∧ i' = q ∨ h.length ≤ i') ∧ h'[i']? = some ⟨Y.k1, g', true, Y.es⟩) ∧
      (∀ r, r ≠ p → (X.has = true → r ≠ q) → r < h.length → h'[r]? = h[r]?) ∧ h.length ≤ h'.length := by
  have hpl := (List.getElem?_eq_some_iff.1 hp).1
  have hids : AV.idsL [.ptr p 0 0 0, a] = [p] := by simp [AV.idsL, AV.ids, ha]
  have g0 := hX.gen q gq
  have hkx : (X.f q gq).k = (Y.f i g).k := by rw [hX.kk, hY.kk, hk]
  -- what goes in
  have hin : ∃ ord, aisoIn h [.ptr p 0 0 0, a] = some ([.ptr 0 0 0 0, a], X.f 1 0 :: (if X.has = true then [⟨X.k1, 0, true, X.es⟩] else []), ord) ∧ ord = if X.has = true then [p, q] else [p] := by
    refine ⟨_, ?_, rfl⟩
    unfold aisoIn
    simp only
    rw [hids]
    cases hh : X.has with
    | false =>
      rw [reach_one hp (by rw [hX.ids, hh]; rfl)]
      rw [if_pos (by simp [orderOk, hpl])]
      have e1 : AV.renL h 0 0 [p] [.ptr p 0 0 0, a] = [.ptr 0 0 0 0, a] := by
        simp [AV.renL, AV.ren, hp, g0, hr, List.idxOf?_cons]
      have e2 : arows h 0 0 [p] = [X.f 1 0] := by
        have := hX.ren h [p] q 1 gq (fun e => by rw [hh] at e; cases e)
        simp [arows, hp, this]
      rw [e1, e2]; rfl
    | true =>
      obtain ⟨hqp, hq1⟩ := hq hh
      have hql := (List.getElem?_eq_some_iff.1 hq1).1
      rw [reach_two hp (by rw [hX.ids, hh]; rfl) hqp hq1 rfl]
      rw [if_pos (by simp [orderOk, hpl, hql]; exact fun e => hqp e.symm)]
      have e1 : AV.renL h 0 0 [p, q] [.ptr p 0 0 0, a] = [.ptr 0 0 0 0, a] := by
        simp [AV.renL, AV.ren, hp, g0, hr, List.idxOf?_cons]
      have hpq : (p == q) = false := by simp; exact fun e => hqp e.symm
      have hi : [p, q].idxOf? q = some 1 := by simp [List.idxOf?_cons, hpq]
      have e2 : arows h 0 0 [p, q] = [X.f 1 0, ⟨X.k1, 0, true, X.es⟩] := by
        have := hX.ren h [p, q] q 1 gq (fun _ => ⟨⟨_, hq1, rfl⟩, hi⟩)
        have e3 : ({ ARow.ren h 0 0 [p, q] ⟨X.k1, gq, true, X.es⟩ with gen := 0 } : ARow) = ⟨X.k1, 0, true, X.es⟩ := rfl
        simp only [arows, List.filterMap_cons, hp, hq1, Option.map_some, List.filterMap_nil, this, e3]
      rw [e1, e2]; rfl
  obtain ⟨ord, hin, hord⟩ := hin
  have hgo : aiso raw fn [.ptr p 0 0 0, a] h = aback h [.ptr 0 0 0 0, a] ord v (Y.f i g :: R) := by
    unfold aiso
    rw [hin]
    simp only [Option.bind_some]
    rw [hraw]
    rfl
  have hids2 : v.ids ++ AV.idsL [.ptr 0 0 0 0, a] = [0] := by simp [AV.idsL, AV.ids, ha, hv]
  have hy0 : (Y.f i g :: R)[0]? = some (Y.f i g) := rfl
  have hpn : p ∉ ([] : List Nat) := by simp
  have gY := hY.gen i g
  have cY := hY.clean i g
  have cfl : ∀ k g es, (⟨k, g, true, es⟩ : ARow).cleanB = true := fun _ _ _ => rfl
  -- no row named behind
  cases hh2 : Y.has with
  | false =>
    have ho3 : areach (Y.f i g :: R) 0 64 [0] [] = [0] := reach_one hy0 (by rw [hY.ids, hh2]; rfl)
    have mp : ∀ m, { (Y.f i g).mapid m with gen := 0 } = Y.f i g := fun m => by
      have := hY.mapid m i g (i, 0) (fun e => by rw [hh2] at e; cases e)
      simpa using this
    cases hh : X.has with
    | false =>
      rw [hh] at hord
      simp only [Bool.false_eq_true, if_false] at hord
      refine ⟨h.set p (Y.f i g), i, g, ?_, List.getElem?_set_self hpl, fun e => absurd e (by simp), fun r hrp _ hrl => List.getElem?_set_ne (Ne.symm hrp), by simp⟩
      rw [hgo, aback, hids2, ho3, hord, abackO]
      have hmm := mp (backId h [p] [0] [])
      rw [if_pos (by simp [orderOk, hvc, backOk, hp, cY, newOk, hkx])]
      simp only [List.length_cons, List.length_nil, hvm, backRows, backRow, hp, List.contains_cons, BEq.rfl, Bool.true_or, if_true, List.getElem?_cons_zero, gY, g0, Nat.add_zero]
      have ef : List.filter (fun i => decide (0 + 1 ≤ i)) [0] = [] := by decide
      rw [ef]
      simp only [newRows, List.filterMap_nil, List.append_nil]
      rw [hmm]
    | true =>
      obtain ⟨hqp, hq1⟩ := hq hh
      have hql := (List.getElem?_eq_some_iff.1 hq1).1
      rw [hh] at hord
      simp only [if_true] at hord
      refine ⟨(h.set p (Y.f i g)).set q ⟨X.k1, gq + 1, true, []⟩, i, g, ?_, ?_, fun e => absurd e (by simp), fun r hrp hrq hrl => ?_, by simp⟩
      · rw [hgo, aback, hids2, ho3, hord, abackO]
        have hmm := mp (backId h [p, q] [0] [])
        rw [if_pos (by simp [orderOk, hvc, backOk, hp, cY, newOk, hkx])]
        have hq2 : (h.set p (Y.f i g))[q]? = some ⟨X.k1, gq, true, X.es⟩ := by rw [List.getElem?_set_ne (Ne.symm hqp)]; exact hq1
        have ef : List.filter (fun i => decide ([p, q].length ≤ i)) [0] = [] := rfl
        rw [ef]
        simp only [hvm, newRows, List.filterMap_nil, List.append_nil]
        have b1 : backRow (backId h [p, q] [0] []) [0] (Y.f i g :: R) 0 p h = h.set p (Y.f i g) := by
          unfold backRow
          rw [hp]
          simp only [gY, g0, Nat.add_zero, List.getElem?_cons_zero, hmm]
          rfl
        have b2 : backRow (backId h [p, q] [0] []) [0] (Y.f i g :: R) 1 q (h.set p (Y.f i g)) = (h.set p (Y.f i g)).set q ⟨X.k1, gq + 1, true, []⟩ := by
          unfold backRow
          rw [hq2]
          rfl
        rw [backRows, backRows, backRows, b1, Nat.zero_add, b2]
      · rw [List.getElem?_set_ne hqp]; exact List.getElem?_set_self hpl
      · rw [List.getElem?_set_ne (Ne.symm (hrq rfl)), List.getElem?_set_ne (Ne.symm hrp)]
  | true =>
    obtain ⟨hi1, hyi⟩ := hy hh2
    have hi0 : i ≠ 0 := by omega
    have ho3 : areach (Y.f i g :: R) 0 64 [0] [] = [0, i] := reach_two hy0 (by rw [hY.ids, hh2]; rfl) hi0 hyi rfl
    have hil := (List.getElem?_eq_some_iff.1 hyi).1
    have h0l : 0 < (Y.f i g :: R).length := by simp
    have ok3 : orderOk (Y.f i g :: R) 0 [0, i] = true := by
      simp only [orderOk, Bool.and_eq_true, decide_eq_true_eq, List.all_cons, List.all_nil, Bool.and_true]
      exact ⟨by simp; exact fun e => hi0 e.symm, ⟨⟨Nat.le_refl _, h0l⟩, ⟨Nat.zero_le _, hil⟩⟩⟩
    have c00 : ([0, i] : List Nat).contains 0 = true := by simp
    cases hh : X.has with
    | false =>
      rw [hh] at hord
      simp only [Bool.false_eq_true, if_false] at hord
      have ef : List.filter (fun j => decide ([p].length ≤ j)) [0, i] = [i] := by simp [hi1]
      have hb : backId h [p] [0, i] [i] i = some (h.length, 0) := by
        unfold backId
        rw [if_neg (by simp; omega)]
        simp [List.idxOf?_cons]
      have hmm := hY.mapid (backId h [p] [0, i] [i]) i g (h.length, 0) (fun _ => hb)
      simp only [Nat.zero_add] at hmm
      refine ⟨h.set p (Y.f h.length g) ++ [⟨Y.k1, g, true, Y.es⟩], h.length, g, ?_, ?_, fun _ => ⟨by omega, .inr (Nat.le_refl _), ?_⟩, fun r hrp _ hrl => ?_, by simp⟩
      · rw [hgo, aback, hids2, ho3, hord, abackO]
        rw [ef, ok3]
        rw [if_pos (by simp [hvc, backOk, hp, cY, newOk, hkx, hyi, cfl])]
        have b1 : backRow (backId h [p] [0, i] [i]) [0, i] (Y.f i g :: R) 0 p h = h.set p (Y.f h.length g) := by
          unfold backRow
          rw [hp]
          simp only [gY, g0, Nat.add_zero, List.getElem?_cons_zero, hmm]
          rw [if_pos c00]
        have b2 : newRows (backId h [p] [0, i] [i]) (Y.f i g :: R) [i] = [⟨Y.k1, g, true, Y.es⟩] := by
          simp only [newRows, List.filterMap_cons, hyi, Option.map_some, List.filterMap_nil]
          rfl
        rw [backRows, backRows, b1, b2, hvm]
      · rw [List.getElem?_append_left (by simp [hpl])]; exact List.getElem?_set_self hpl
      · rw [List.getElem?_append_right (by simp)]; simp
      · rw [List.getElem?_append_left (by simp [hrl]), List.getElem?_set_ne (Ne.symm hrp)]
    | true =>
      obtain ⟨hqp, hq1⟩ := hq hh
      have hql := (List.getElem?_eq_some_iff.1 hq1).1
      rw [hh] at hord
      simp only [if_true] at hord
      by_cases e1 : i = 1
      · subst e1
        have ef : List.filter (fun j => decide ([p, q].length ≤ j)) [0, 1] = [] := rfl
        have hb : backId h [p, q] [0, 1] [] 1 = some (q, gq) := by
          unfold backId
          rw [if_pos (by simp), if_pos (by simp)]
          simp [hq1]
        have hmm := hY.mapid (backId h [p, q] [0, 1] []) 1 g (q, gq) (fun _ => hb)
        simp only at hmm
        have hq2 : (h.set p (Y.f q (gq + g)))[q]? = some ⟨X.k1, gq, true, X.es⟩ := by rw [List.getElem?_set_ne (Ne.symm hqp)]; exact hq1
        refine ⟨(h.set p (Y.f q (gq + g))).set q ⟨Y.k1, gq + g, true, Y.es⟩, q, gq + g, ?_, ?_, fun _ => ⟨hqp, .inl ⟨rfl, rfl⟩, ?_⟩, fun r hrp hrq hrl => ?_, by simp⟩
        · rw [hgo, aback, hids2, ho3, hord, abackO]
          rw [ef, ok3]
          have hyi' : R[0]? = some ⟨Y.k1, g, true, Y.es⟩ := by simpa using hyi
          rw [if_pos (by simp [hvc, backOk, hp, hq1, cY, newOk, hkx, hyi', cfl, hk1])]
          have b1 : backRow (backId h [p, q] [0, 1] []) [0, 1] (Y.f 1 g :: R) 0 p h = h.set p (Y.f q (gq + g)) := by
            unfold backRow
            rw [hp]
            simp only [gY, g0, Nat.add_zero, List.getElem?_cons_zero, hmm]
            rfl
          have b2 : backRow (backId h [p, q] [0, 1] []) [0, 1] (Y.f 1 g :: R) 1 q (h.set p (Y.f q (gq + g))) = (h.set p (Y.f q (gq + g))).set q ⟨Y.k1, gq + g, true, Y.es⟩ := by
            unfold backRow
            rw [hq2, hyi]
            rfl
          rw [backRows, backRows, backRows, b1, Nat.zero_add, b2, hvm]
          simp [newRows]
        · rw [List.getElem?_set_ne hqp]; exact List.getElem?_set_self hpl
        · exact List.getElem?_set_self (by simp [hql])
        · rw [List.getElem?_set_ne (Ne.symm (hrq rfl)), List.getElem?_set_ne (Ne.symm hrp)]
      · have hi2 : 2 ≤ i := by omega
        have ef : List.filter (fun j => decide ([p, q].length ≤ j)) [0, i] = [i] := by simp [hi2]
        have hb : backId h [p, q] [0, i] [i] i = some (h.length, 0) := by
          unfold backId
          rw [if_neg (by simp; omega)]
          simp [List.idxOf?_cons]
        have hmm := hY.mapid (backId h [p, q] [0, i] [i]) i g (h.length, 0) (fun _ => hb)
        simp only [Nat.zero_add] at hmm
        have hq2 : (h.set p (Y.f h.length g))[q]? = some ⟨X.k1, gq, true, X.es⟩ := by rw [List.getElem?_set_ne (Ne.symm hqp)]; exact hq1
        have c1 : ([0, i] : List Nat).contains 1 = false := by
          have : ¬ 1 = i := fun e => e1 e.symm
          simp [this]
        refine ⟨(h.set p (Y.f h.length g)).set q ⟨X.k1, gq + 1, true, []⟩ ++ [⟨Y.k1, g, true, Y.es⟩], h.length, g, ?_, ?_, fun _ => ⟨by omega, .inr (Nat.le_refl _), ?_⟩, fun r hrp hrq hrl => ?_, by simp⟩
        · rw [hgo, aback, hids2, ho3, hord, abackO]
          rw [ef, ok3]
          have ob : backOk h [0, i] (Y.f i g :: R) 0 [p, q] = true := by
            have : ¬ 1 = i := fun e => e1 e.symm
            simp [backOk, hp, cY, hkx, this]
          rw [if_pos (by rw [ob]; simp [hvc, newOk, hyi, cfl])]
          have b1 : backRow (backId h [p, q] [0, i] [i]) [0, i] (Y.f i g :: R) 0 p h = h.set p (Y.f h.length g) := by
            unfold backRow
            rw [hp]
            simp only [gY, g0, Nat.add_zero, List.getElem?_cons_zero, hmm]
            rw [if_pos c00]
          have b2 : backRow (backId h [p, q] [0, i] [i]) [0, i] (Y.f i g :: R) 1 q (h.set p (Y.f h.length g)) = (h.set p (Y.f h.length g)).set q ⟨X.k1, gq + 1, true, []⟩ := by
            unfold backRow
            rw [hq2]
            simp only
            rw [if_neg (by rw [c1]; simp)]
          have b3 : newRows (backId h [p, q] [0, i] [i]) (Y.f i g :: R) [i] = [⟨Y.k1, g, true, Y.es⟩] := by
            simp only [newRows, List.filterMap_cons, hyi, Option.map_some, List.filterMap_nil]
            rfl
          rw [backRows, backRows, backRows, b1, Nat.zero_add, b2, b3, hvm]
        · rw [List.getElem?_append_left (by simp [hpl]), List.getElem?_set_ne hqp]; exact List.getElem?_set_self hpl
        · rw [List.getElem?_append_right (by simp)]; simp
        · rw [List.getElem?_append_left (by simp [hrl]), List.getElem?_set_ne (Ne.symm (hrq rfl)), List.getElem?_set_ne (Ne.symm hrp)]
end Go.Proofs.Ytkkcblfoaldckaa
