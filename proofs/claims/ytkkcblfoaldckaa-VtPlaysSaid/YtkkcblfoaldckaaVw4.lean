/- Loop heads over two rows, over two rows and a list; how the told list is renamed. Conditions: as the statements say. -/
import Derived.Test.YtkkcblfoaldckaaVw2
import Derived.Test.YtkkcblfoaldckaaVw3
set_option linter.unusedVariables false
set_option linter.unusedSimpArgs false
set_option linter.unusedSectionVars false
set_option maxRecDepth 20000
set_option maxHeartbeats 4000000
namespace Go.Proofs.Ytkkcblfoaldckaa
open Go
theorem g_ids (a : Act') : AV.idsL a.g = [] := by simp [Act'.g, AV.idsL, AV.ids]
theorem g_ren (a : Act') (h : List ARow) (low off : Nat) (o : List Nat) : AV.renL h low off o a.g = a.g := by simp [Act'.g, AV.renL, AV.ren]
theorem g_mapid (a : Act') (m : Nat → Option (Nat × Nat)) : AV.mapidL m a.g = a.g := by simp [Act'.g, AV.mapidL, AV.mapid]
theorem g_clean (a : Act') : AV.cleanL a.g = true := by simp [Act'.g, AV.cleanL, AV.clean]
theorem actG_ids (l : List Act') : (actG l).flatMap AV.idsL = [] := by simp [actG, List.flatMap_map, g_ids]
theorem actG_ren (l : List Act') (h : List ARow) (low off : Nat) (o : List Nat) : (actG l).map (AV.renL h low off o) = actG l := by simp [actG, Function.comp_def, g_ren]
theorem actG_mapid (l : List Act') (m : Nat → Option (Nat × Nat)) : (actG l).map (AV.mapidL m) = actG l := by simp [actG, Function.comp_def, g_mapid]
theorem actG_clean (l : List Act') : (actG l).all AV.cleanL = true := by simp [actG, g_clean]
theorem rz_ok (Z : RZ) : Z.X.Ok := by
  constructor
  · intro i g
    cases Z with
    | plain l fl => cases fl <;> simp [RZ.f, RZ.has, ARow.ids, actG_ids]
    | par => simp [RZ.f, RZ.has, ARow.ids, AV.idsL, AV.ids]
    | txt n c es ts rest => simp [RZ.f, RZ.has, ARow.ids, AV.idsL, AV.ids, actG_ids]
  · intro i g; cases Z <;> rfl
  · intro i g; cases Z <;> rfl
  · intro h order i j g hh
    cases Z with
    | plain l fl => cases fl <;> simp [RZ.f, ARow.ren, actG_ren]
    | par | txt =>
      obtain ⟨⟨r, h1, h2⟩, h3⟩ := hh rfl
      simp [RZ.f, ARow.ren, AV.renL, AV.ren, h1, h2, h3, actG_ren]
  · intro m i g i' hh
    cases Z with
    | plain l fl => cases fl <;> simp [RZ.f, ARow.mapid, actG_mapid]
    | par | txt =>
      have h1 := hh rfl
      simp [RZ.f, ARow.mapid, AV.mapidL, AV.mapid, h1, actG_mapid]
  · intro i g
    cases Z with
    | plain l fl => cases fl <;> simp [RZ.f, ARow.cleanB, actG_clean]
    | par => simp [RZ.f, ARow.cleanB, AV.cleanL, AV.clean]
    | txt n c es ts rest =>
      have := actG_clean rest
      simp only [List.all_eq_true] at this
      simp [RZ.f, ARow.cleanB, AV.cleanL, AV.clean]
      exact this
theorem gc_of {live : List Nat} {E E' : AEnv} {h h' : List ARow} {order : List Nat} (hk : akeep live E = E) (hi : areach h 0 64 (AV.idsL (E.map (·.2))) [] = order) (ho : orderOk h 0 order = true) (hE : E.map (fun p => (p.1, p.2.ren h 0 0 order)) = E') (hh : arows h 0 0 order = h') :
    agc 0 live ⟨E, h⟩ = some ⟨E', h'⟩ := by
  unfold agc
  simp only [hk, List.take_zero, List.flatMap_nil, List.append_nil, hi, ho, if_true, List.map_nil, List.nil_append, hE, hh]
/-- Two rows at a and b and their own, wherever these lie. -/
def NStG (h : List ARow) (a b : Nat) (X Y : RootF) : Prop :=
  a ≠ b ∧ ∃ i g j k, h[a]? = some (X.f i g) ∧ h[b]? = some (Y.f j k) ∧ (X.has = true → i ≠ a ∧ i ≠ b ∧ h[i]? = some ⟨X.k1, g, true, X.es⟩) ∧ (Y.has = true → j ≠ a ∧ j ≠ b ∧ h[j]? = some ⟨Y.k1, k, true, Y.es⟩) ∧ (X.has = true → Y.has = true → i ≠ j)
theorem reach_ab {h : List ARow} {a b : Nat} {X Y : RootF} (hX : X.Ok) (hY : Y.Ok) (hab : a ≠ b) {i g j k : Nat} (h0 : h[a]? = some (X.f i g)) (h1 : h[b]? = some (Y.f j k)) (hx : X.has = true → i ≠ a ∧ i ≠ b ∧ h[i]? = some ⟨X.k1, g, true, X.es⟩)
    (hy : Y.has = true → j ≠ a ∧ j ≠ b ∧ h[j]? = some ⟨Y.k1, k, true, Y.es⟩) (hij : X.has = true → Y.has = true → i ≠ j) :
    areach h 0 64 [a, b] [] = [a, b] ++ (if X.has = true then [i] else []) ++ if Y.has = true then [j] else [] := by
  have a0 := hX.ids i g
  have a1 := hY.ids j k
  have hba : ¬ b = a := fun e => hab e.symm
  rw [areach, if_neg (by simp), h0]
  simp only [a0, List.nil_append]
  rw [List.singleton_append, areach, if_neg (by simp [hba]), h1]
  simp only [a1]
  cases e1 : X.has with
  | false =>
    cases e2 : Y.has with
    | false => rfl
    | true =>
      obtain ⟨q0, q1, q2⟩ := hy e2
      simp only [Bool.false_eq_true, if_false, if_true, List.nil_append]
      rw [areach, if_neg (by simp [q0, q1]), q2]
      rfl
  | true =>
    obtain ⟨p0, p1, p2⟩ := hx e1
    cases e2 : Y.has with
    | false =>
      simp only [Bool.false_eq_true, if_false, if_true, List.append_nil]
      rw [areach, if_neg (by simp [p0, p1]), p2]
      rfl
    | true =>
      obtain ⟨q0, q1, q2⟩ := hy e2
      have := hij e1 e2
      have hji : ¬ j = i := fun e => this e.symm
      simp only [if_true]
      rw [List.singleton_append, areach, if_neg (by simp [p0, p1]), p2]
      simp only [flat_ids]
      rw [List.append_nil, areach, if_neg (by simp [q0, q1, hji]), q2]
      rfl
theorem two_gc {live : List Nat} {E E' : AEnv} {a b : Nat} (hk : akeep live E = E) (hi : AV.idsL (E.map (·.2)) = [a, b]) {h : List ARow} {X Y : RootF} (hX : X.Ok) (hY : Y.Ok) (hs : NStG h a b X Y)
    (hE : ∀ order r0 r1, h[a]? = some r0 → h[b]? = some r1 → r0.gen = 0 → r1.gen = 0 → order.idxOf? a = some 0 → order.idxOf? b = some 1 → E.map (fun p => (p.1, p.2.ren h 0 0 order)) = E') :
    agc 0 live ⟨E, h⟩ = some ⟨E', canN X Y⟩ := by
  obtain ⟨hab, i, g, j, k, h0, h1, hx, hy, hij⟩ := hs
  have hre := reach_ab hX hY hab h0 h1 hx hy hij
  have l0 := (List.getElem?_eq_some_iff.1 h0).1
  have l1 := (List.getElem?_eq_some_iff.1 h1).1
  have g0 := hX.gen i g
  have g1 := hY.gen j k
  have bab : (a == b) = false := by simp [hab]
  have hE' := fun order => hE order _ _ h0 h1 g0 g1
  cases e1 : X.has with
  | false =>
    cases e2 : Y.has with
    | false =>
      simp only [e1, e2, Bool.false_eq_true, if_false, List.append_nil] at hre
      refine gc_of hk (by rw [hi, hre]) (by simp [orderOk, l0, l1, hab]) (hE' _ (by simp [List.idxOf?_cons]) (by simp [List.idxOf?_cons, bab])) ?_
      have r0 := hX.ren h [a, b] i 2 g (fun e => by rw [e1] at e; cases e)
      have r1 := hY.ren h [a, b] j 2 k (fun e => by rw [e2] at e; cases e)
      simp [canN, e1, e2, arows, h0, h1, r0, r1]
    | true =>
      obtain ⟨q0, q1, q2⟩ := hy e2
      have l2 := (List.getElem?_eq_some_iff.1 q2).1
      simp only [e1, e2, Bool.false_eq_true, if_false, if_true, List.append_nil] at hre
      have b0 : (a == j) = false := by simp; exact fun e => q0 e.symm
      have b1 : (b == j) = false := by simp; exact fun e => q1 e.symm
      have n0 : ¬ a = j := fun e => q0 e.symm
      have n1 : ¬ b = j := fun e => q1 e.symm
      refine gc_of hk (by rw [hi, hre]) (by simp [orderOk, l0, l1, l2, hab, n0, n1]) (hE' _ (by simp [List.idxOf?_cons]) (by simp [List.idxOf?_cons, bab])) ?_
      have ix : ([a, b] ++ [j]).idxOf? j = some 2 := by simp [List.idxOf?_cons, b0, b1]
      have r0 := hX.ren h ([a, b] ++ [j]) i 2 g (fun e => by rw [e1] at e; cases e)
      have r1 := hY.ren h ([a, b] ++ [j]) j 2 k (fun _ => ⟨⟨_, q2, rfl⟩, ix⟩)
      have r2 : ({ ARow.ren h 0 0 ([a, b] ++ [j]) ⟨Y.k1, k, true, Y.es⟩ with gen := 0 } : ARow) = ⟨Y.k1, 0, true, Y.es⟩ := rfl
      simp only [List.cons_append, List.nil_append] at r0 r1 r2
      simp [canN, e1, e2, h0, h1, arows, r0, r1, q2, r2]
  | true =>
    obtain ⟨p0, p1, p2⟩ := hx e1
    have l3 := (List.getElem?_eq_some_iff.1 p2).1
    have b0 : (a == i) = false := by simp; exact fun e => p0 e.symm
    have b1 : (b == i) = false := by simp; exact fun e => p1 e.symm
    have n0 : ¬ a = i := fun e => p0 e.symm
    have n1 : ¬ b = i := fun e => p1 e.symm
    cases e2 : Y.has with
    | false =>
      simp only [e1, e2, Bool.false_eq_true, if_false, if_true, List.append_nil] at hre
      refine gc_of hk (by rw [hi, hre]) (by simp [orderOk, l0, l1, l3, hab, n0, n1]) (hE' _ (by simp [List.idxOf?_cons]) (by simp [List.idxOf?_cons, bab])) ?_
      have ix : ([a, b] ++ [i]).idxOf? i = some 2 := by simp [List.idxOf?_cons, b0, b1]
      have r0 := hX.ren h ([a, b] ++ [i]) i 2 g (fun _ => ⟨⟨_, p2, rfl⟩, ix⟩)
      have r1 := hY.ren h ([a, b] ++ [i]) j 3 k (fun e => by rw [e2] at e; cases e)
      have r2 : ({ ARow.ren h 0 0 ([a, b] ++ [i]) ⟨X.k1, g, true, X.es⟩ with gen := 0 } : ARow) = ⟨X.k1, 0, true, X.es⟩ := rfl
      simp only [List.cons_append, List.nil_append] at r0 r1 r2
      simp [canN, e1, e2, h0, h1, arows, r0, r1, p2, r2]
    | true =>
      obtain ⟨q0, q1, q2⟩ := hy e2
      have hne := hij e1 e2
      have l2 := (List.getElem?_eq_some_iff.1 q2).1
      have m0 : ¬ a = j := fun e => q0 e.symm
      have m1 : ¬ b = j := fun e => q1 e.symm
      simp only [e1, e2, if_true] at hre
      refine gc_of hk (by rw [hi, hre]) (by simp [orderOk, l0, l1, l2, l3, hab, n0, n1, m0, m1, hne]) (hE' _ (by simp [List.idxOf?_cons]) (by simp [List.idxOf?_cons, bab])) ?_
      have c0 : (a == j) = false := by simp [m0]
      have c1 : (b == j) = false := by simp [m1]
      have c2 : (i == j) = false := by simp [hne]
      have ix : ([a, b] ++ [i] ++ [j]).idxOf? i = some 2 := by simp [List.idxOf?_cons, b0, b1]
      have iy : ([a, b] ++ [i] ++ [j]).idxOf? j = some 3 := by simp [List.idxOf?_cons, c0, c1, c2]
      have r0 := hX.ren h ([a, b] ++ [i] ++ [j]) i 2 g (fun _ => ⟨⟨_, p2, rfl⟩, ix⟩)
      have r1 := hY.ren h ([a, b] ++ [i] ++ [j]) j 3 k (fun _ => ⟨⟨_, q2, rfl⟩, iy⟩)
      have r2 : ({ ARow.ren h 0 0 ([a, b] ++ [i] ++ [j]) ⟨X.k1, g, true, X.es⟩ with gen := 0 } : ARow) = ⟨X.k1, 0, true, X.es⟩ := rfl
      have r3 : ({ ARow.ren h 0 0 ([a, b] ++ [i] ++ [j]) ⟨Y.k1, k, true, Y.es⟩ with gen := 0 } : ARow) = ⟨Y.k1, 0, true, Y.es⟩ := rfl
      simp only [List.cons_append, List.nil_append] at r0 r1 r2 r3
      simp [canN, e1, e2, h0, h1, arows, r0, r1, p2, q2, r2, r3]
/-- Two rows and a list, the first row naming none. -/
def NSt3 (h : List ARow) (z gz : Nat) (X Y Z : RootF) : Prop :=
  2 ≤ z ∧ ∃ i g j k t gt, h[0]? = some (X.f i g) ∧ h[1]? = some (Y.f j k) ∧ h[z]? = some { Z.f t gt with gen := gz } ∧ X.has = false ∧ (Y.has = true → 2 ≤ j ∧ j ≠ z ∧ h[j]? = some ⟨Y.k1, k, true, Y.es⟩) ∧
    (Z.has = true → 2 ≤ t ∧ t ≠ z ∧ h[t]? = some ⟨Z.k1, gt, true, Z.es⟩) ∧ (Y.has = true → Z.has = true → j ≠ t)
def can3 (X Y Z : RootF) : List ARow :=
  X.f 3 0 :: Y.f 3 0 :: Z.f (if Y.has = true then 4 else 3) 0 :: ((if Y.has = true then [⟨Y.k1, 0, true, Y.es⟩] else []) ++ if Z.has = true then [⟨Z.k1, 0, true, Z.es⟩] else [])
theorem ren_gen (h : List ARow) (low off : Nat) (o : List Nat) (r : ARow) (g : Nat) : ({ ARow.ren h low off o { r with gen := g } with gen := 0 } : ARow) = { ARow.ren h low off o r with gen := 0 } := by
  unfold ARow.ren
  split <;> simp_all
theorem three_gc {live : List Nat} {E E' : AEnv} {z gz : Nat} (hk : akeep live E = E) (hi : AV.idsL (E.map (·.2)) = [0, 1, z]) {h : List ARow} {X Y Z : RootF} (hX : X.Ok) (hY : Y.Ok) (hZ : Z.Ok) (hs : NSt3 h z gz X Y Z)
    (hE : ∀ order r0 r1 r2, h[0]? = some r0 → h[1]? = some r1 → h[z]? = some r2 → r0.gen = 0 → r1.gen = 0 → r2.gen = gz → order.idxOf? 0 = some 0 → order.idxOf? 1 = some 1 → order.idxOf? z = some 2 → E.map (fun p => (p.1, p.2.ren h 0 0 order)) = E') :
    agc 0 live ⟨E, h⟩ = some ⟨E', can3 X Y Z⟩ := by
  obtain ⟨hz2, i, g, j, k, t, gt, h0, h1, h2, xh, hy, hz, hjt⟩ := hs
  have l0 := (List.getElem?_eq_some_iff.1 h0).1
  have l1 := (List.getElem?_eq_some_iff.1 h1).1
  have l2 := (List.getElem?_eq_some_iff.1 h2).1
  have g0 := hX.gen i g
  have g1 := hY.gen j k
  have i0 : ARow.ids (X.f i g) = [] := by rw [hX.ids, xh]; rfl
  have i1 := hY.ids j k
  have i2 : ARow.ids { Z.f t gt with gen := gz } = if Z.has = true then [t] else [] := hZ.ids t gt
  have n0 : ¬ 0 = z := by omega
  have n1 : ¬ 1 = z := by omega
  have n0' : ¬ z = 0 := by omega
  have n1' : ¬ z = 1 := by omega
  have b0 : (0 == z) = false := by simp [n0]
  have b1 : (1 == z) = false := by simp [n1]
  have hE' := fun order => hE order _ _ _ h0 h1 h2 g0 g1 rfl
  have R0 : ∀ o, ({ ARow.ren h 0 0 o (X.f i g) with gen := 0 } : ARow) = X.f 3 0 := fun o => hX.ren h o i 3 g (fun e => by rw [xh] at e; cases e)
  have fl : ∀ (o : List Nat) (k g : Nat) (es : List (List AV)), ({ ARow.ren h 0 0 o ⟨k, g, true, es⟩ with gen := 0 } : ARow) = ⟨k, 0, true, es⟩ := fun _ _ _ _ => rfl
  have hre0 : areach h 0 64 [0, 1, z] [] = areach h 0 61 ((if Y.has = true then [j] else []) ++ if Z.has = true then [t] else []) [0, 1, z] := by
    rw [areach, if_neg (by simp), h0]
    simp only [i0, List.append_nil, List.nil_append]
    rw [areach, if_neg (by simp), h1]
    simp only [i1]
    rw [List.singleton_append, areach, if_neg (by simp [n0', n1']), h2]
    simp only [i2]
    rfl
  cases e1 : Y.has with
  | false =>
    cases e2 : Z.has with
    | false =>
      simp only [e1, e2, Bool.false_eq_true, if_false, List.append_nil] at hre0
      have hre : areach h 0 64 [0, 1, z] [] = [0, 1, z] := hre0
      refine gc_of hk (by rw [hi, hre]) (by simp [orderOk, l0, l1, l2, n0, n1]) (hE' _ (by simp [List.idxOf?_cons]) (by simp [List.idxOf?_cons]) (by simp [List.idxOf?_cons, b0, b1])) ?_
      have r1 := hY.ren h [0, 1, z] j 3 k (fun e => by rw [e1] at e; cases e)
      have r2 := hZ.ren h [0, 1, z] t 3 gt (fun e => by rw [e2] at e; cases e)
      rw [← ren_gen _ _ _ _ _ gz] at r2
      simp [can3, e1, e2, arows, h0, h1, h2, R0, r1, r2]
    | true =>
      obtain ⟨q0, q1, q2⟩ := hz e2
      have l3 := (List.getElem?_eq_some_iff.1 q2).1
      simp only [e1, e2, Bool.false_eq_true, if_false, if_true, List.nil_append] at hre0
      have hre : areach h 0 64 [0, 1, z] [] = [0, 1, z, t] := by
        rw [hre0, areach, if_neg (by simp [q1]; omega), q2]; rfl
      have m0 : ¬ 0 = t := by omega
      have m1 : ¬ 1 = t := by omega
      have m2 : ¬ z = t := fun e => q1 e.symm
      refine gc_of hk (by rw [hi, hre]) (by simp [orderOk, l0, l1, l2, l3, n0, n1, m0, m1, m2]) (hE' _ (by simp [List.idxOf?_cons]) (by simp [List.idxOf?_cons]) (by simp [List.idxOf?_cons, b0, b1])) ?_
      have c0 : (0 == t) = false := by simp [m0]
      have c1 : (1 == t) = false := by simp [m1]
      have c2 : (z == t) = false := by simp [m2]
      have ix : [0, 1, z, t].idxOf? t = some 3 := by simp [List.idxOf?_cons, c0, c1, c2]
      have r1 := hY.ren h [0, 1, z, t] j 3 k (fun e => by rw [e1] at e; cases e)
      have r2 := hZ.ren h [0, 1, z, t] t 3 gt (fun _ => ⟨⟨_, q2, rfl⟩, ix⟩)
      rw [← ren_gen _ _ _ _ _ gz] at r2
      simp [can3, e1, e2, arows, h0, h1, h2, q2, R0, r1, r2, fl]
  | true =>
    obtain ⟨p0, p1, p2⟩ := hy e1
    have l3 := (List.getElem?_eq_some_iff.1 p2).1
    have m0 : ¬ 0 = j := by omega
    have m1 : ¬ 1 = j := by omega
    have m2 : ¬ z = j := fun e => p1 e.symm
    have c0 : (0 == j) = false := by simp [m0]
    have c1 : (1 == j) = false := by simp [m1]
    have c2 : (z == j) = false := by simp [m2]
    cases e2 : Z.has with
    | false =>
      simp only [e1, e2, Bool.false_eq_true, if_false, if_true, List.append_nil] at hre0
      have hre : areach h 0 64 [0, 1, z] [] = [0, 1, z, j] := by
        rw [hre0, areach, if_neg (by simp [p1]; omega), p2]; rfl
      refine gc_of hk (by rw [hi, hre]) (by simp [orderOk, l0, l1, l2, l3, n0, n1, m0, m1, m2]) (hE' _ (by simp [List.idxOf?_cons]) (by simp [List.idxOf?_cons]) (by simp [List.idxOf?_cons, b0, b1])) ?_
      have ix : [0, 1, z, j].idxOf? j = some 3 := by simp [List.idxOf?_cons, c0, c1, c2]
      have r1 := hY.ren h [0, 1, z, j] j 3 k (fun _ => ⟨⟨_, p2, rfl⟩, ix⟩)
      have r2 := hZ.ren h [0, 1, z, j] t 4 gt (fun e => by rw [e2] at e; cases e)
      rw [← ren_gen _ _ _ _ _ gz] at r2
      simp [can3, e1, e2, arows, h0, h1, h2, p2, R0, r1, r2, fl]
    | true =>
      obtain ⟨q0, q1, q2⟩ := hz e2
      have l4 := (List.getElem?_eq_some_iff.1 q2).1
      have hne := hjt e1 e2
      have hne' : ¬ t = j := fun e => hne e.symm
      simp only [e1, e2, if_true] at hre0
      have hre : areach h 0 64 [0, 1, z] [] = [0, 1, z, j, t] := by
        rw [hre0, List.singleton_append, areach, if_neg (by simp [p1]; omega), p2]
        simp only [flat_ids]
        rw [List.append_nil, areach, if_neg (by simp [q1, hne']; omega), q2]; rfl
      have o0 : ¬ 0 = t := by omega
      have o1 : ¬ 1 = t := by omega
      have o2 : ¬ z = t := fun e => q1 e.symm
      have d0 : (0 == t) = false := by simp [o0]
      have d1 : (1 == t) = false := by simp [o1]
      have d2 : (z == t) = false := by simp [o2]
      have d3 : (j == t) = false := by simp [hne]
      refine gc_of hk (by rw [hi, hre]) (by simp [orderOk, l0, l1, l2, l3, l4, n0, n1, m0, m1, m2, o0, o1, o2, hne]) (hE' _ (by simp [List.idxOf?_cons]) (by simp [List.idxOf?_cons]) (by simp [List.idxOf?_cons, b0, b1])) ?_
      have ix : [0, 1, z, j, t].idxOf? j = some 3 := by simp [List.idxOf?_cons, c0, c1, c2]
      have iy : [0, 1, z, j, t].idxOf? t = some 4 := by simp [List.idxOf?_cons, d0, d1, d2, d3]
      have r1 := hY.ren h [0, 1, z, j, t] j 3 k (fun _ => ⟨⟨_, p2, rfl⟩, ix⟩)
      have r2 := hZ.ren h [0, 1, z, j, t] t 4 gt (fun _ => ⟨⟨_, q2, rfl⟩, iy⟩)
      rw [← ren_gen _ _ _ _ _ gz] at r2
      simp [can3, e1, e2, arows, h0, h1, h2, p2, q2, R0, r1, r2, fl]
end Go.Proofs.Ytkkcblfoaldckaa
