/- A call over a row that names at most one row of the call's own, answering a list of its own. Conditions: as the statements say. -/
import Derived.Test.YtkkcblfoaldckaaVn1
set_option linter.unusedVariables false
set_option linter.unusedSimpArgs false
set_option linter.unusedSectionVars false
set_option maxRecDepth 20000
set_option maxHeartbeats 4000000
namespace Go.Proofs.Ytkkcblfoaldckaa
open Go
theorem iso_goes (raw : ARaw) (fn : Nat) (a : AV) (ha : a.ids = []) (hr : ∀ h low off o, a.ren h low off o = a) (X : RootF) (hX : X.Ok) (h : List ARow) (p q gq : Nat) (hp : h[p]? = some (X.f q gq))
    (hq : X.has = true → q ≠ p ∧ h[q]? = some ⟨X.k1, gq, true, X.es⟩) :
    aiso raw fn [.ptr p 0 0 0, a] h = (raw fn [.ptr 0 0 0 0, a] (X.f 1 0 :: if X.has = true then [⟨X.k1, 0, true, X.es⟩] else [])).bind fun r => aback h [.ptr 0 0 0 0, a] (if X.has = true then [p, q] else [p]) r.1 r.2 := by
  have hpl := (List.getElem?_eq_some_iff.1 hp).1
  have hids : AV.idsL [.ptr p 0 0 0, a] = [p] := by simp [AV.idsL, AV.ids, ha]
  have g0 := hX.gen q gq
  have hin : aisoIn h [.ptr p 0 0 0, a] = some ([.ptr 0 0 0 0, a], X.f 1 0 :: (if X.has = true then [⟨X.k1, 0, true, X.es⟩] else []), if X.has = true then [p, q] else [p]) := by
    unfold aisoIn
    simp only
    rw [hids]
    cases hh : X.has with
    | false =>
      rw [reach_one hp (by rw [hX.ids, hh]; rfl)]
      rw [if_pos (by simp [orderOk, hpl])]
      have e1 : AV.renL h 0 0 [p] [.ptr p 0 0 0, a] = [.ptr 0 0 0 0, a] := by
        simp [AV.renL, AV.ren, hp, g0, hr, List.idxOf?_cons]
      have e2 : arows h 0 0 [p] = [X.f 1 0] := by
        have := hX.ren h [p] q 1 gq (fun e => by rw [hh] at e; cases e)
        simp [arows, hp, this]
      rw [e1, e2]; rfl
    | true =>
      obtain ⟨hqp, hq1⟩ := hq hh
      have hql := (List.getElem?_eq_some_iff.1 hq1).1
      rw [reach_two hp (by rw [hX.ids, hh]; rfl) hqp hq1 rfl]
      rw [if_pos (by simp [orderOk, hpl, hql]; exact fun e => hqp e.symm)]
      have e1 : AV.renL h 0 0 [p, q] [.ptr p 0 0 0, a] = [.ptr 0 0 0 0, a] := by
        simp [AV.renL, AV.ren, hp, g0, hr, List.idxOf?_cons]
      have hpq : (p == q) = false := by simp; exact fun e => hqp e.symm
      have hi : [p, q].idxOf? q = some 1 := by simp [List.idxOf?_cons, hpq]
      have e2 : arows h 0 0 [p, q] = [X.f 1 0, ⟨X.k1, 0, true, X.es⟩] := by
        have := hX.ren h [p, q] q 1 gq (fun _ => ⟨⟨_, hq1, rfl⟩, hi⟩)
        have e3 : ({ ARow.ren h 0 0 [p, q] ⟨X.k1, gq, true, X.es⟩ with gen := 0 } : ARow) = ⟨X.k1, 0, true, X.es⟩ := rfl
        simp only [arows, List.filterMap_cons, hp, hq1, Option.map_some, List.filterMap_nil, this, e3]
      rw [e1, e2]; rfl
  unfold aiso
  rw [hin]
  rfl
theorem mapid_gen (m : Nat → Option (Nat × Nat)) (r : ARow) (g : Nat) : ({ r with gen := g } : ARow).mapid m = { r.mapid m with gen := g } := by
  unfold ARow.mapid
  split <;> simp_all
theorem list_reach {H : List ARow} {y r : ARow} {z t : Nat} (hy : H[0]? = some y) (hyi : y.ids = []) (hz : H[z]? = some r) (hz1 : 1 ≤ z) :
    (r.ids = [] → areach H 0 64 [z, 0] [] = [z, 0]) ∧ (r.ids = [t] → t ≠ z → 1 ≤ t → ∀ x, H[t]? = some x → x.ids = [] → areach H 0 64 [z, 0] [] = [z, 0, t]) := by
  have z0 : ¬ z = 0 := by omega
  have zn : ¬ 0 = z := by omega
  refine ⟨fun e => ?_, fun e h1 h2 x h3 h4 => ?_⟩
  · rw [areach, if_neg (by simp), hz]
    simp only [e, List.append_nil]
    rw [areach, if_neg (by simp; omega), hy]
    simp only [hyi]
    rfl
  · rw [areach, if_neg (by simp), hz]
    simp only [e]
    rw [List.singleton_append, areach, if_neg (by simp; omega), hy]
    simp only [hyi]
    rw [List.append_nil, areach, if_neg (by simp; omega), h3]
    simp only [h4]
    rfl
theorem iso_own (raw : ARaw) (fn : Nat) (a : AV) (ha : a.ids = []) (hr : ∀ h low off o, a.ren h low off o = a) (X Y Z : RootF) (hX : X.Ok) (hY : Y.Ok) (hZ : Z.Ok) (hk : X.k = Y.k) (hYh : Y.has = false) (hk1 : X.k1 = Z.k1) (h : List ARow) (p q gq : Nat) (hp : h[p]? = some (X.f q gq))
    (hq : X.has = true → q ≠ p ∧ h[q]? = some ⟨X.k1, gq, true, X.es⟩) (i g : Nat) (R : List ARow) (z gz t gt n c : Nat)
    (hraw : raw fn [.ptr 0 0 0 0, a] (X.f 1 0 :: if X.has = true then [⟨X.k1, 0, true, X.es⟩] else []) = some (.own z gz 0 n c, Y.f i g :: R)) (hz : (Y.f i g :: R)[z]? = some { Z.f t gt with gen := gz })
    (ht : Z.has = true → t ≠ z ∧ 1 ≤ t ∧ (Y.f i g :: R)[t]? = some ⟨Z.k1, gt, true, Z.es⟩) (hz1 : 1 ≤ z) (hz2 : X.has = true → 2 ≤ z) :
    ∃ h' z' t' gt', aiso raw fn [.ptr p 0 0 0, a] h = some (.own z' gz 0 n c, h') ∧ h'[p]? = some (Y.f i g) ∧ h'[z']? = some { Z.f t' gt' with gen := gz } ∧ h.length ≤ z' ∧
      (Z.has = true → (X.has = true ∧ t' = q ∨ h.length ≤ t') ∧ t' ≠ z' ∧ h'[t']? = some ⟨Z.k1, gt', true, Z.es⟩) ∧
      (∀ r, r ≠ p → (X.has = true → r ≠ q) → r < h.length → h'[r]? = h[r]?) ∧ h.length ≤ h'.length := by
  have hpl := (List.getElem?_eq_some_iff.1 hp).1
  have hgo := iso_goes raw fn a ha hr X hX h p q gq hp hq
  rw [hraw] at hgo
  simp only [Option.bind_some] at hgo
  have g0 := hX.gen q gq
  have hkx : (X.f q gq).k = (Y.f i g).k := by rw [hX.kk, hY.kk, hk]
  have gY := hY.gen i g
  have cY := hY.clean i g
  have cfl : ∀ k g es, (⟨k, g, true, es⟩ : ARow).cleanB = true := fun _ _ _ => rfl
  have iY : ARow.ids (Y.f i g) = [] := by rw [hY.ids, hYh]; rfl
  have mY : ∀ m, { (Y.f i g).mapid m with gen := 0 } = Y.f i g := fun m => by
    have := hY.mapid m i g (i, 0) (fun e => by rw [hYh] at e; cases e)
    simpa using this
  have cZ : ({ Z.f t gt with gen := gz } : ARow).cleanB = true := by
    have := hZ.clean t gt
    simpa [ARow.cleanB] using this
  have iZ : ARow.ids { Z.f t gt with gen := gz } = if Z.has = true then [t] else [] := hZ.ids t gt
  have hids2 : AV.ids (.own z gz 0 n c) ++ AV.idsL [.ptr 0 0 0 0, a] = [z, 0] := by simp [AV.idsL, AV.ids, ha]
  have hy0 : (Y.f i g :: R)[0]? = some (Y.f i g) := rfl
  have hzl := (List.getElem?_eq_some_iff.1 hz).1
  have hl0 : 0 < (Y.f i g :: R).length := by simp
  have vc : AV.clean (.own z gz 0 n c) = true := rfl
  have zn0 : ¬ z = 0 := by omega
  have zn0' : ¬ 0 = z := by omega
  obtain ⟨re1, re2⟩ := list_reach (t := t) hy0 iY hz hz1
  have mZ : ∀ (m : Nat → Option (Nat × Nat)) (t' : Nat × Nat), (Z.has = true → m t = some t') → ({ Z.f t gt with gen := gz } : ARow).mapid m = { Z.f t'.1 (t'.2 + gt) with gen := gz } := fun m t' hm => by
    have h1 := hZ.mapid m t gt t' hm
    rw [mapid_gen, ← h1]
  cases hzh : Z.has with
  | false =>
    have o3 := re1 (by rw [iZ, hzh]; rfl)
    have ok3 : orderOk (Y.f i g :: R) 0 [z, 0] = true := by
      simp only [orderOk, Bool.and_eq_true, decide_eq_true_eq, List.all_cons, List.all_nil, Bool.and_true]
      exact ⟨by simp; exact zn0, ⟨⟨Nat.zero_le _, hzl⟩, ⟨Nat.le_refl _, hl0⟩⟩⟩
    have c0 : ([z, 0] : List Nat).contains 0 = true := by simp
    cases hh : X.has with
    | false =>
      rw [hh] at hgo
      simp only [Bool.false_eq_true, if_false] at hgo
      have ef : List.filter (fun j => decide ([p].length ≤ j)) [z, 0] = [z] := by simp [hz1]
      have hb : backId h [p] [z, 0] [z] z = some (h.length, 0) := by
        unfold backId
        rw [if_neg (by simp; omega)]
        simp [List.idxOf?_cons]
      have hmZ := mZ (backId h [p] [z, 0] [z]) (t, 0) (fun e => by rw [hzh] at e; cases e)
      simp only [Nat.zero_add] at hmZ
      refine ⟨h.set p (Y.f i g) ++ [{ Z.f t gt with gen := gz }], h.length, t, gt, ?_, ?_, ?_, Nat.le_refl _, fun e => absurd e (by simp), fun r hrp _ hrl => ?_, by simp⟩
      · rw [hgo, aback, hids2, o3, abackO]
        rw [ef, ok3]
        rw [if_pos (by simp [vc, backOk, hp, cY, newOk, hkx, hz, cZ])]
        have b1 : backRow (backId h [p] [z, 0] [z]) [z, 0] (Y.f i g :: R) 0 p h = h.set p (Y.f i g) := by
          unfold backRow
          rw [hp]
          simp only [gY, g0, Nat.add_zero, List.getElem?_cons_zero, mY]
          rw [if_pos c0]
        have b2 : newRows (backId h [p] [z, 0] [z]) (Y.f i g :: R) [z] = [{ Z.f t gt with gen := gz }] := by
          simp only [newRows, List.filterMap_cons, hz, Option.map_some, List.filterMap_nil, hmZ]
        rw [backRows, backRows, b1, b2]
        simp only [AV.mapid, hb, Nat.zero_add]
      · rw [List.getElem?_append_left (by simp [hpl])]; exact List.getElem?_set_self hpl
      · rw [List.getElem?_append_right (by simp)]; simp
      · rw [List.getElem?_append_left (by simp [hrl]), List.getElem?_set_ne (Ne.symm hrp)]
    | true =>
      obtain ⟨hqp, hq1⟩ := hq hh
      have hql := (List.getElem?_eq_some_iff.1 hq1).1
      have z2 := hz2 hh
      rw [hh] at hgo
      simp only [if_true] at hgo
      have ef : List.filter (fun j => decide ([p, q].length ≤ j)) [z, 0] = [z] := by simp [z2]
      have hb : backId h [p, q] [z, 0] [z] z = some (h.length, 0) := by
        unfold backId
        rw [if_neg (by simp; omega)]
        simp [List.idxOf?_cons]
      have hmZ := mZ (backId h [p, q] [z, 0] [z]) (t, 0) (fun e => by rw [hzh] at e; cases e)
      simp only [Nat.zero_add] at hmZ
      have hq2 : (h.set p (Y.f i g))[q]? = some ⟨X.k1, gq, true, X.es⟩ := by rw [List.getElem?_set_ne (Ne.symm hqp)]; exact hq1
      have z1 : ¬ 1 = z := by omega
      have c1 : ([z, 0] : List Nat).contains 1 = false := by simp [z1]
      refine ⟨(h.set p (Y.f i g)).set q ⟨X.k1, gq + 1, true, []⟩ ++ [{ Z.f t gt with gen := gz }], h.length, t, gt, ?_, ?_, ?_, Nat.le_refl _, fun e => absurd e (by simp), fun r hrp hrq hrl => ?_, by simp⟩
      · rw [hgo, aback, hids2, o3, abackO]
        rw [ef, ok3]
        rw [if_pos (by simp [vc, backOk, hp, cY, newOk, hkx, hz, cZ, z1])]
        have b1 : backRow (backId h [p, q] [z, 0] [z]) [z, 0] (Y.f i g :: R) 0 p h = h.set p (Y.f i g) := by
          unfold backRow
          rw [hp]
          simp only [gY, g0, Nat.add_zero, List.getElem?_cons_zero, mY]
          rw [if_pos c0]
        have b2 : backRow (backId h [p, q] [z, 0] [z]) [z, 0] (Y.f i g :: R) 1 q (h.set p (Y.f i g)) = (h.set p (Y.f i g)).set q ⟨X.k1, gq + 1, true, []⟩ := by
          unfold backRow
          rw [hq2]
          simp only
          rw [if_neg (by rw [c1]; simp)]
        have b3 : newRows (backId h [p, q] [z, 0] [z]) (Y.f i g :: R) [z] = [{ Z.f t gt with gen := gz }] := by
          simp only [newRows, List.filterMap_cons, hz, Option.map_some, List.filterMap_nil, hmZ]
        rw [backRows, backRows, backRows, b1, Nat.zero_add, b2, b3]
        simp only [AV.mapid, hb, Nat.zero_add]
      · rw [List.getElem?_append_left (by simp [hpl]), List.getElem?_set_ne hqp]; exact List.getElem?_set_self hpl
      · rw [List.getElem?_append_right (by simp)]; simp
      · rw [List.getElem?_append_left (by simp [hrl]), List.getElem?_set_ne (Ne.symm (hrq rfl)), List.getElem?_set_ne (Ne.symm hrp)]
  | true =>
    obtain ⟨htz, ht1, htr⟩ := ht hzh
    have htl := (List.getElem?_eq_some_iff.1 htr).1
    have o3 := re2 (by rw [iZ, hzh]; rfl) htz ht1 _ htr rfl
    have tz : ¬ z = t := fun e => htz e.symm
    have t0 : ¬ 0 = t := by omega
    have ok3 : orderOk (Y.f i g :: R) 0 [z, 0, t] = true := by
      simp only [orderOk, Bool.and_eq_true, decide_eq_true_eq, List.all_cons, List.all_nil, Bool.and_true]
      exact ⟨by simp; exact ⟨⟨zn0, tz⟩, t0⟩, ⟨⟨Nat.zero_le _, hzl⟩, ⟨Nat.le_refl _, hl0⟩, ⟨Nat.zero_le _, htl⟩⟩⟩
    have c0 : ([z, 0, t] : List Nat).contains 0 = true := by simp
    have bzt : (z == t) = false := by simp; exact tz
    cases hh : X.has with
    | false =>
      rw [hh] at hgo
      simp only [Bool.false_eq_true, if_false] at hgo
      have ef : List.filter (fun j => decide ([p].length ≤ j)) [z, 0, t] = [z, t] := by simp [hz1, ht1]
      have hb : backId h [p] [z, 0, t] [z, t] z = some (h.length, 0) := by
        unfold backId
        rw [if_neg (by simp; omega)]
        simp [List.idxOf?_cons]
      have hbt : backId h [p] [z, 0, t] [z, t] t = some (h.length + 1, 0) := by
        unfold backId
        rw [if_neg (by simp; omega)]
        simp [List.idxOf?_cons, bzt]
      have hmZ := mZ (backId h [p] [z, 0, t] [z, t]) (h.length + 1, 0) (fun _ => hbt)
      simp only [Nat.zero_add] at hmZ
      refine ⟨h.set p (Y.f i g) ++ [{ Z.f (h.length + 1) gt with gen := gz }, ⟨Z.k1, gt, true, Z.es⟩], h.length, h.length + 1, gt, ?_, ?_, ?_, Nat.le_refl _, fun _ => ⟨.inr (by omega), by omega, ?_⟩, fun r hrp _ hrl => ?_, by simp⟩
      · rw [hgo, aback, hids2, o3, abackO]
        rw [ef, ok3]
        rw [if_pos (by simp [vc, backOk, hp, cY, newOk, hkx, hz, cZ, htr, cfl])]
        have b1 : backRow (backId h [p] [z, 0, t] [z, t]) [z, 0, t] (Y.f i g :: R) 0 p h = h.set p (Y.f i g) := by
          unfold backRow
          rw [hp]
          simp only [gY, g0, Nat.add_zero, List.getElem?_cons_zero, mY]
          rw [if_pos c0]
        have b2 : newRows (backId h [p] [z, 0, t] [z, t]) (Y.f i g :: R) [z, t] = [{ Z.f (h.length + 1) gt with gen := gz }, ⟨Z.k1, gt, true, Z.es⟩] := by
          simp only [newRows, List.filterMap_cons, hz, htr, Option.map_some, List.filterMap_nil, hmZ]
          rfl
        rw [backRows, backRows, b1, b2]
        simp only [AV.mapid, hb, Nat.zero_add]
      · rw [List.getElem?_append_left (by simp [hpl])]; exact List.getElem?_set_self hpl
      · rw [List.getElem?_append_right (by simp)]; simp
      · rw [List.getElem?_append_right (by simp)]; simp
      · rw [List.getElem?_append_left (by simp [hrl]), List.getElem?_set_ne (Ne.symm hrp)]
    | true =>
      obtain ⟨hqp, hq1⟩ := hq hh
      have hql := (List.getElem?_eq_some_iff.1 hq1).1
      have z2 := hz2 hh
      have z1 : ¬ 1 = z := by omega
      rw [hh] at hgo
      simp only [if_true] at hgo
      have hq2 : (h.set p (Y.f i g))[q]? = some ⟨X.k1, gq, true, X.es⟩ := by rw [List.getElem?_set_ne (Ne.symm hqp)]; exact hq1
      by_cases e1 : t = 1
      · subst e1
        have ef : List.filter (fun j => decide ([p, q].length ≤ j)) [z, 0, 1] = [z] := by simp [z2]
        have hb : backId h [p, q] [z, 0, 1] [z] z = some (h.length, 0) := by
          unfold backId
          rw [if_neg (by simp; omega)]
          simp [List.idxOf?_cons]
        have hbt : backId h [p, q] [z, 0, 1] [z] 1 = some (q, gq) := by
          unfold backId
          rw [if_pos (by simp), if_pos (by simp)]
          simp [hq1]
        have hmZ := mZ (backId h [p, q] [z, 0, 1] [z]) (q, gq) (fun _ => hbt)
        simp only at hmZ
        refine ⟨(h.set p (Y.f i g)).set q ⟨Z.k1, gq + gt, true, Z.es⟩ ++ [{ Z.f q (gq + gt) with gen := gz }], h.length, q, gq + gt, ?_, ?_, ?_, Nat.le_refl _, fun _ => ⟨.inl ⟨rfl, rfl⟩, by omega, ?_⟩, fun r hrp hrq hrl => ?_, by simp⟩
        · rw [hgo, aback, hids2, o3, abackO]
          rw [ef, ok3]
          have htr' : R[0]? = some ⟨Z.k1, gt, true, Z.es⟩ := by simpa using htr
          rw [if_pos (by simp [vc, backOk, hp, hq1, cY, newOk, hkx, hz, cZ, htr', cfl, hk1])]
          have b1 : backRow (backId h [p, q] [z, 0, 1] [z]) [z, 0, 1] (Y.f i g :: R) 0 p h = h.set p (Y.f i g) := by
            unfold backRow
            rw [hp]
            simp only [gY, g0, Nat.add_zero, List.getElem?_cons_zero, mY]
            rw [if_pos c0]
          have c1 : ([z, 0, 1] : List Nat).contains 1 = true := by simp
          have b2 : backRow (backId h [p, q] [z, 0, 1] [z]) [z, 0, 1] (Y.f i g :: R) 1 q (h.set p (Y.f i g)) = (h.set p (Y.f i g)).set q ⟨Z.k1, gq + gt, true, Z.es⟩ := by
            unfold backRow
            rw [hq2, htr]
            simp only
            rw [if_pos c1]
            rfl
          have b3 : newRows (backId h [p, q] [z, 0, 1] [z]) (Y.f i g :: R) [z] = [{ Z.f q (gq + gt) with gen := gz }] := by
            simp only [newRows, List.filterMap_cons, hz, Option.map_some, List.filterMap_nil, hmZ]
          rw [backRows, backRows, backRows, b1, Nat.zero_add, b2, b3]
          simp only [AV.mapid, hb, Nat.zero_add]
        · rw [List.getElem?_append_left (by simp [hpl]), List.getElem?_set_ne hqp]; exact List.getElem?_set_self hpl
        · rw [List.getElem?_append_right (by simp)]; simp
        · rw [List.getElem?_append_left (by simp [hql])]; exact List.getElem?_set_self (by simp [hql])
        · rw [List.getElem?_append_left (by simp [hrl]), List.getElem?_set_ne (Ne.symm (hrq rfl)), List.getElem?_set_ne (Ne.symm hrp)]
      · have t2 : 2 ≤ t := by omega
        have t1 : ¬ 1 = t := by omega
        have ef : List.filter (fun j => decide ([p, q].length ≤ j)) [z, 0, t] = [z, t] := by simp [z2, t2]
        have hb : backId h [p, q] [z, 0, t] [z, t] z = some (h.length, 0) := by
          unfold backId
          rw [if_neg (by simp; omega)]
          simp [List.idxOf?_cons]
        have hbt : backId h [p, q] [z, 0, t] [z, t] t = some (h.length + 1, 0) := by
          unfold backId
          rw [if_neg (by simp; omega)]
          simp [List.idxOf?_cons, bzt]
        have hmZ := mZ (backId h [p, q] [z, 0, t] [z, t]) (h.length + 1, 0) (fun _ => hbt)
        simp only [Nat.zero_add] at hmZ
        have c1 : ([z, 0, t] : List Nat).contains 1 = false := by simp [z1, t1]
        refine ⟨(h.set p (Y.f i g)).set q ⟨X.k1, gq + 1, true, []⟩ ++ [{ Z.f (h.length + 1) gt with gen := gz }, ⟨Z.k1, gt, true, Z.es⟩], h.length, h.length + 1, gt, ?_, ?_, ?_, Nat.le_refl _, fun _ => ⟨.inr (by omega), by omega, ?_⟩, fun r hrp hrq hrl => ?_, by simp⟩
        · rw [hgo, aback, hids2, o3, abackO]
          rw [ef, ok3]
          rw [if_pos (by simp [vc, backOk, hp, cY, newOk, hkx, hz, cZ, htr, cfl, z1, t1])]
          have b1 : backRow (backId h [p, q] [z, 0, t] [z, t]) [z, 0, t] (Y.f i g :: R) 0 p h = h.set p (Y.f i g) := by
            unfold backRow
            rw [hp]
            simp only [gY, g0, Nat.add_zero, List.getElem?_cons_zero, mY]
            rw [if_pos c0]
          have b2 : backRow (backId h [p, q] [z, 0, t] [z, t]) [z, 0, t] (Y.f i g :: R) 1 q (h.set p (Y.f i g)) = (h.set p (Y.f i g)).set q ⟨X.k1, gq + 1, true, []⟩ := by
            unfold backRow
            rw [hq2]
            simp only
            rw [if_neg (by rw [c1]; simp)]
          have b3 : newRows (backId h [p, q] [z, 0, t] [z, t]) (Y.f i g :: R) [z, t] = [{ Z.f (h.length + 1) gt with gen := gz }, ⟨Z.k1, gt, true, Z.es⟩] := by
            simp only [newRows, List.filterMap_cons, hz, htr, Option.map_some, List.filterMap_nil, hmZ]
            rfl
          rw [backRows, backRows, backRows, b1, Nat.zero_add, b2, b3]
          simp only [AV.mapid, hb, Nat.zero_add]
        · rw [List.getElem?_append_left (by simp [hpl]), List.getElem?_set_ne hqp]; exact List.getElem?_set_self hpl
        · rw [List.getElem?_append_right (by simp)]; simp
        · rw [List.getElem?_append_right (by simp)]; simp
        · rw [List.getElem?_append_left (by simp [hrl]), List.getElem?_set_ne (Ne.symm (hrq rfl)), List.getElem?_set_ne (Ne.symm hrp)]
end Go.Proofs.Ytkkcblfoaldckaa
