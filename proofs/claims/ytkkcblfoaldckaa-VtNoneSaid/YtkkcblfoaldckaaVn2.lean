/- The two parsers side by side: their rows, a call over one of them, the loop's head. Conditions: as each statement says. -/
import Derived.Test.YtkkcblfoaldckaaVn1
import Derived.Test.YtkkcblfoaldckaaVb1
import Derived.Test.YtkkcblfoaldckaaVq1
set_option linter.unusedVariables false
set_option linter.unusedSimpArgs false
set_option linter.unusedSectionVars false
set_option maxRecDepth 20000
set_option maxHeartbeats 4000000
namespace Go.Proofs.Ytkkcblfoaldckaa
open Go
def vtF : VS → Bool → Nat → Nat → ARow
  | .nil, fl, _, _ => ⟨10, 0, fl, [[.nilfn, .bool false, .bool false, .bool false, .bool false, .bool false, .int .i32 0, .str ⟨#[]⟩, .data false 1 [] true, .data false 1 [] true]]⟩
  | .esc v s, fl, _, _ => ⟨10, 0, fl, [[.fn (.func n_vt_escape) [] [], .bool false, .bool false, .bool false, .bool v, .bool false, .int .i32 0, .str s, .data false 1 [] true, .data false 1 [] true]]⟩
  | .seq0 f v m s, fl, _, _ => ⟨10, 0, fl, [[.fn (.func n_vt_sequence) [] [], .bool false, .bool false, .bool f, .bool v, .bool false, .int .i32 m, .str s, .data false 1 [] true, .data false 1 [] true]]⟩
  | .seq1 v m s q _, _, i, g => ⟨10, 0, false, [[.fn (.func n_vt_sequence) [] [], .bool false, .bool false, .bool false, .bool v, .bool true, .int .i32 m, .str s, .own i g 0 (q.length + 1) (q.length + 1), .data false 1 [] true]]⟩
  | .txt0 t, fl, _, _ => ⟨10, 0, fl, [[.fn (.func n_vt_text) [] [], .bool true, .bool t, .bool false, .bool false, .bool false, .int .i32 0, .str ⟨#[]⟩, .data false 1 [] true, .data false 1 [] true]]⟩
  | .txt1 t ts, _, i, g => ⟨10, 0, false, [[.fn (.func n_vt_text) [] [], .bool true, .bool t, .bool false, .bool false, .bool false, .int .i32 0, .str ⟨#[]⟩, .data false 1 [] true, .own i g 0 ts.length ts.length]]⟩
def vtHas : VS → Bool
  | .seq1 .. | .txt1 .. => true
  | _ => false
def vtEs : VS → List (List AV)
  | .seq1 _ _ _ q x => ints q ++ [[.int .i64 x]]
  | .txt1 _ ts => rn ts
  | _ => []
abbrev vtX (s : VS) (fl : Bool) : RootF := ⟨10, 1, vtHas s, vtEs s, vtF s fl⟩
def rF : List Int → Bool → Nat → Nat → ARow
  | [], fl, _, _ => ⟨1, 0, fl, [[.data false 1 [] true]]⟩
  | x :: H, _, i, g => ⟨1, 0, false, [[.own i g 0 (x :: H).length (x :: H).length]]⟩
def rHas : List Int → Bool
  | [] => false
  | _ :: _ => true
abbrev rX (H : List Int) (fl : Bool) : RootF := ⟨1, 1, rHas H, rn H, rF H fl⟩
theorem vtX_ok (s : VS) (fl : Bool) : (vtX s fl).Ok := by
  constructor
  · intro i g; cases s <;> cases fl <;> rfl
  · intro i g; cases s <;> rfl
  · intro i g; cases s <;> rfl
  · intro h order i j g hh
    cases s with
    | nil | esc | seq0 | txt0 => cases fl <;> rfl
    | seq1 v m s q x | txt1 t ts =>
      obtain ⟨⟨r, h1, h2⟩, h3⟩ := hh rfl
      simp [vtF, ARow.ren, AV.renL, AV.ren, h1, h2, h3]
  · intro m i g i' hh
    cases s with
    | nil | esc | seq0 | txt0 => cases fl <;> rfl
    | seq1 v mm s q x | txt1 t ts =>
      have h1 := hh rfl
      simp [vtF, ARow.mapid, AV.mapidL, AV.mapid, h1]
  · intro i g; cases s <;> cases fl <;> rfl
theorem rX_ok (H : List Int) (fl : Bool) : (rX H fl).Ok := by
  constructor
  · intro i g; cases H <;> cases fl <;> rfl
  · intro i g; cases H <;> rfl
  · intro i g; cases H <;> rfl
  · intro h order i j g hh
    cases H with
    | nil => cases fl <;> rfl
    | cons x H =>
      obtain ⟨⟨r, h1, h2⟩, h3⟩ := hh rfl
      simp [rF, ARow.ren, AV.renL, AV.ren, h1, h2, h3]
  · intro m i g i' hh
    cases H with
    | nil => cases fl <;> rfl
    | cons x H =>
      have h1 := hh rfl
      simp [rF, ARow.mapid, AV.mapidL, AV.mapid, h1]
  · intro i g; cases H <;> cases fl <;> rfl
theorem canonRb_eq (s : VS) (fl : Bool) : canonRb s fl = (vtX s fl).f 1 0 :: (if (vtX s fl).has = true then [⟨(vtX s fl).k1, 0, true, (vtX s fl).es⟩] else []) := by cases s <;> rfl
theorem rHeapq_eq (H : List Int) (fl : Bool) : rHeapq fl H = (rX H fl).f 1 0 :: (if (rX H fl).has = true then [⟨(rX H fl).k1, 0, true, (rX H fl).es⟩] else []) := by cases H <;> rfl
theorem stb_root {o : ARow} {h : List ARow} {s : VS} (hs : Stb o h s) : ∃ fl i g R, h = (vtX s fl).f i g :: R ∧ ((vtX s fl).has = true → 1 ≤ i ∧ ((vtX s fl).f i g :: R)[i]? = some ⟨(vtX s fl).k1, g, true, (vtX s fl).es⟩) := by
  cases s with
  | nil | esc | seq0 | txt0 =>
    obtain ⟨fl, R, rfl⟩ := hs
    exact ⟨fl, 0, 0, R, rfl, fun e => by cases e⟩
  | seq1 | txt1 =>
    obtain ⟨i, g, R, rfl, h1, h2⟩ := hs
    exact ⟨false, i, g, R, rfl, fun _ => ⟨h1, h2⟩⟩
theorem rstq_root {h : List ARow} {H : List Int} (hs : RStq h H) : ∃ fl i g R, h = (rX H fl).f i g :: R ∧ ((rX H fl).has = true → 1 ≤ i ∧ ((rX H fl).f i g :: R)[i]? = some ⟨(rX H fl).k1, g, true, (rX H fl).es⟩) := by
  cases H with
  | nil =>
    obtain ⟨fl, R, rfl⟩ := hs
    exact ⟨fl, 0, 0, R, rfl, fun e => by cases e⟩
  | cons x H =>
    obtain ⟨i, g, R, rfl, h1, h2⟩ := hs
    exact ⟨false, i, g, R, rfl, fun _ => ⟨h1, h2⟩⟩
/-- The two rows and their own, wherever these lie. -/
def NSt (h : List ARow) (X Y : RootF) : Prop :=
  ∃ i g j k, h[0]? = some (X.f i g) ∧ h[1]? = some (Y.f j k) ∧ (X.has = true → 2 ≤ i ∧ h[i]? = some ⟨X.k1, g, true, X.es⟩) ∧ (Y.has = true → 2 ≤ j ∧ h[j]? = some ⟨Y.k1, k, true, Y.es⟩) ∧ (X.has = true → Y.has = true → i ≠ j)
def canN (X Y : RootF) : List ARow :=
  X.f 2 0 :: Y.f (if X.has = true then 3 else 2) 0 :: ((if X.has = true then [⟨X.k1, 0, true, X.es⟩] else []) ++ if Y.has = true then [⟨Y.k1, 0, true, Y.es⟩] else [])
theorem reach_two2 {h : List ARow} {X Y : RootF} (hX : X.Ok) (hY : Y.Ok) {i g j k : Nat} (h0 : h[0]? = some (X.f i g)) (h1 : h[1]? = some (Y.f j k)) (hx : X.has = true → 2 ≤ i ∧ h[i]? = some ⟨X.k1, g, true, X.es⟩)
    (hy : Y.has = true → 2 ≤ j ∧ h[j]? = some ⟨Y.k1, k, true, Y.es⟩) (hij : X.has = true → Y.has = true → i ≠ j) :
    areach h 0 64 [0, 1] [] = [0, 1] ++ (if X.has = true then [i] else []) ++ if Y.has = true then [j] else [] := by
  have a0 := hX.ids i g
  have a1 := hY.ids j k
  rw [areach, if_neg (by simp), h0]
  simp only [a0, List.nil_append]
  rw [List.singleton_append, areach, if_neg (by simp), h1]
  simp only [a1]
  cases e1 : X.has with
  | false =>
    cases e2 : Y.has with
    | false => rfl
    | true =>
      obtain ⟨q1, q2⟩ := hy e2
      simp only [Bool.false_eq_true, if_false, if_true, List.nil_append]
      rw [areach, if_neg (by simp; omega), q2]
      rfl
  | true =>
    obtain ⟨p1, p2⟩ := hx e1
    cases e2 : Y.has with
    | false =>
      simp only [Bool.false_eq_true, if_false, if_true, List.append_nil]
      rw [areach, if_neg (by simp; omega), p2]
      rfl
    | true =>
      obtain ⟨q1, q2⟩ := hy e2
      have := hij e1 e2
      simp only [if_true]
      rw [List.singleton_append, areach, if_neg (by simp; omega), p2]
      simp only [flat_ids]
      rw [List.append_nil, areach, if_neg (by simp; omega), q2]
      rfl
theorem none_gc (dl : AV) (hd : dl.ids = []) (hr : ∀ h low off o, dl.ren h low off o = dl) (a : Int) {h : List ARow} {X Y : RootF} (hX : X.Ok) (hY : Y.Ok) (hs : NSt h X Y) :
    agc 0 [0, 3, 4, 5, 6] ⟨[(0, dl), (3, .nilptr), (4, .ptr 0 0 0 0), (5, .ptr 1 0 0 0), (6, .int .i64 a)], h⟩ = some ⟨[(0, dl), (3, .nilptr), (4, .ptr 0 0 0 0), (5, .ptr 1 0 0 0), (6, .int .i64 a)], canN X Y⟩ := by
  obtain ⟨i, g, j, k, h0, h1, hx, hy, hij⟩ := hs
  have hre := reach_two2 hX hY h0 h1 hx hy hij
  have l0 := (List.getElem?_eq_some_iff.1 h0).1
  have l1 := (List.getElem?_eq_some_iff.1 h1).1
  have g0 := hX.gen i g
  have g1 := hY.gen j k
  have ek : akeep [0, 3, 4, 5, 6] [(0, dl), (3, .nilptr), (4, .ptr 0 0 0 0), (5, .ptr 1 0 0 0), (6, .int .i64 a)] = [(0, dl), (3, .nilptr), (4, .ptr 0 0 0 0), (5, .ptr 1 0 0 0), (6, .int .i64 a)] := rfl
  have ei : AV.idsL [dl, .nilptr, .ptr 0 0 0 0, .ptr 1 0 0 0, .int .i64 a] = [0, 1] := by simp [AV.idsL, AV.ids, hd]
  unfold agc
  simp only [ek, List.map_cons, List.map_nil, ei, List.take_zero, List.flatMap_nil, List.append_nil, hre, List.nil_append]
  cases e1 : X.has with
  | false =>
    cases e2 : Y.has with
    | false =>
      simp only [Bool.false_eq_true, if_false, List.append_nil]
      rw [if_pos (by simp [orderOk, l0, l1])]
      have r0 := hX.ren h [0, 1] i 2 g (fun e => by rw [e1] at e; cases e)
      have r1 := hY.ren h [0, 1] j 2 k (fun e => by rw [e2] at e; cases e)
      simp [canN, e1, e2, hr, AV.ren, h0, h1, g0, g1, List.idxOf?_cons, arows, r0, r1]
    | true =>
      obtain ⟨q1, q2⟩ := hy e2
      have l2 := (List.getElem?_eq_some_iff.1 q2).1
      simp only [Bool.false_eq_true, if_false, if_true, List.append_nil]
      rw [if_pos (by simp [orderOk, l0, l1, l2]; omega)]
      have b0 : (0 == j) = false := by simp; omega
      have b1 : (1 == j) = false := by simp; omega
      have ix : ([0, 1] ++ [j]).idxOf? j = some 2 := by simp [List.idxOf?_cons, b0, b1]
      have r0 := hX.ren h ([0, 1] ++ [j]) i 2 g (fun e => by rw [e1] at e; cases e)
      have r1 := hY.ren h ([0, 1] ++ [j]) j 2 k (fun _ => ⟨⟨_, q2, rfl⟩, ix⟩)
      have r2 : ({ ARow.ren h 0 0 ([0, 1] ++ [j]) ⟨Y.k1, k, true, Y.es⟩ with gen := 0 } : ARow) = ⟨Y.k1, 0, true, Y.es⟩ := rfl
      simp only [List.cons_append, List.nil_append] at r0 r1 r2
      simp [canN, e1, e2, hr, AV.ren, h0, h1, g0, g1, List.idxOf?_cons, arows, r0, r1, q2, r2]
  | true =>
    obtain ⟨p1, p2⟩ := hx e1
    have l3 := (List.getElem?_eq_some_iff.1 p2).1
    have b0 : (0 == i) = false := by simp; omega
    have b1 : (1 == i) = false := by simp; omega
    cases e2 : Y.has with
    | false =>
      simp only [Bool.false_eq_true, if_false, if_true, List.append_nil]
      rw [if_pos (by simp [orderOk, l0, l1, l3]; omega)]
      have ix : ([0, 1] ++ [i]).idxOf? i = some 2 := by simp [List.idxOf?_cons, b0, b1]
      have r0 := hX.ren h ([0, 1] ++ [i]) i 2 g (fun _ => ⟨⟨_, p2, rfl⟩, ix⟩)
      have r1 := hY.ren h ([0, 1] ++ [i]) j 3 k (fun e => by rw [e2] at e; cases e)
      have r2 : ({ ARow.ren h 0 0 ([0, 1] ++ [i]) ⟨X.k1, g, true, X.es⟩ with gen := 0 } : ARow) = ⟨X.k1, 0, true, X.es⟩ := rfl
      simp only [List.cons_append, List.nil_append] at r0 r1 r2
      simp [canN, e1, e2, hr, AV.ren, h0, h1, g0, g1, List.idxOf?_cons, arows, r0, r1, p2, r2]
    | true =>
      obtain ⟨q1, q2⟩ := hy e2
      have hne := hij e1 e2
      have l2 := (List.getElem?_eq_some_iff.1 q2).1
      simp only [if_true]
      rw [if_pos (by simp [orderOk, l0, l1, l2, l3]; omega)]
      have c0 : (0 == j) = false := by simp; omega
      have c1 : (1 == j) = false := by simp; omega
      have c2 : (i == j) = false := by simp; omega
      have ix : ([0, 1] ++ [i] ++ [j]).idxOf? i = some 2 := by simp [List.idxOf?_cons, b0, b1]
      have iy : ([0, 1] ++ [i] ++ [j]).idxOf? j = some 3 := by simp [List.idxOf?_cons, c0, c1, c2]
      have r0 := hX.ren h ([0, 1] ++ [i] ++ [j]) i 2 g (fun _ => ⟨⟨_, p2, rfl⟩, ix⟩)
      have r1 := hY.ren h ([0, 1] ++ [i] ++ [j]) j 3 k (fun _ => ⟨⟨_, q2, rfl⟩, iy⟩)
      have r2 : ({ ARow.ren h 0 0 ([0, 1] ++ [i] ++ [j]) ⟨X.k1, g, true, X.es⟩ with gen := 0 } : ARow) = ⟨X.k1, 0, true, X.es⟩ := rfl
      have r3 : ({ ARow.ren h 0 0 ([0, 1] ++ [i] ++ [j]) ⟨Y.k1, k, true, Y.es⟩ with gen := 0 } : ARow) = ⟨Y.k1, 0, true, Y.es⟩ := rfl
      simp only [List.cons_append, List.nil_append] at r0 r1 r2 r3
      simp [canN, e1, e2, hr, AV.ren, h0, h1, g0, g1, List.idxOf?_cons, arows, r0, r1, p2, q2, r2, r3]
/-- A call over each of the two. -/
theorem two_iso (raw : ARaw) (f1 f2 : Nat) (a : AV) (ha : a.ids = []) (hr : ∀ h low off o, a.ren h low off o = a) (X Y X' Y' : RootF) (hX : X.Ok) (hY : Y.Ok) (hX' : X'.Ok) (hY' : Y'.Ok) (kx : X.k = X'.k) (kx1 : X.k1 = X'.k1) (ky : Y.k = Y'.k) (ky1 : Y.k1 = Y'.k1)
    (v1 v2 : AV) (hv1 : v1.ids = []) (hc1 : v1.clean = true) (hm1 : ∀ m, v1.mapid m = v1) (hv2 : v2.ids = []) (hc2 : v2.clean = true) (hm2 : ∀ m, v2.mapid m = v2)
    (i g : Nat) (R : List ARow) (r1 : raw f1 [.ptr 0 0 0 0, a] (X.f 1 0 :: if X.has = true then [⟨X.k1, 0, true, X.es⟩] else []) = some (v1, X'.f i g :: R)) (x1 : X'.has = true → 1 ≤ i ∧ (X'.f i g :: R)[i]? = some ⟨X'.k1, g, true, X'.es⟩)
    (j k : Nat) (T : List ARow) (r2 : raw f2 [.ptr 0 0 0 0, a] (Y.f 1 0 :: if Y.has = true then [⟨Y.k1, 0, true, Y.es⟩] else []) = some (v2, Y'.f j k :: T)) (x2 : Y'.has = true → 1 ≤ j ∧ (Y'.f j k :: T)[j]? = some ⟨Y'.k1, k, true, Y'.es⟩) :
    ∃ h1 h2, aiso raw f1 [.ptr 0 0 0 0, a] (canN X Y) = some (v1, h1) ∧ aiso raw f2 [.ptr 1 0 0 0, a] h1 = some (v2, h2) ∧ NSt h2 X' Y' := by
  obtain ⟨h1, i', g', e1, p0, p1, p2, p3⟩ := iso_root raw f1 a ha hr X X' hX hX' kx kx1 (canN X Y) 0 2 0 rfl (fun e => ⟨by omega, by simp [canN, e]⟩) v1 hv1 hc1 hm1 i g R r1 x1
  have cl : (canN X Y).length = 2 + (if X.has = true then 1 else 0) + if Y.has = true then 1 else 0 := by
    unfold canN
    cases X.has <;> cases Y.has <;> rfl
  have y0 : h1[1]? = some (Y.f (if X.has = true then 3 else 2) 0) := by
    rw [p2 1 (by omega) (fun _ => by omega) (by omega)]; rfl
  have y1 : Y.has = true → h1[if X.has = true then 3 else 2]? = some ⟨Y.k1, 0, true, Y.es⟩ := fun e => by
    rw [p2 _ (by split <;> omega) (fun q => by rw [if_pos q]; omega) (by rw [cl, e]; split <;> simp)]
    unfold canN
    rw [e]
    cases X.has <;> rfl
  obtain ⟨h2, j', k', e2, q0, q1, q2, q3⟩ := iso_root raw f2 a ha hr Y Y' hY hY' ky ky1 h1 1 (if X.has = true then 3 else 2) 0 y0 (fun e => ⟨by split <;> omega, y1 e⟩) v2 hv2 hc2 hm2 j k T r2 x2
  have l0 := (List.getElem?_eq_some_iff.1 p0).1
  have own : X'.has = true → 2 ≤ i' ∧ i' < h1.length ∧ (Y.has = true → i' ≠ if X.has = true then 3 else 2) := fun e => by
    obtain ⟨w1, w2, w3⟩ := p1 e
    have l := (List.getElem?_eq_some_iff.1 w3).1
    refine ⟨?_, l, fun ey => ?_⟩
    · rcases w2 with ⟨_, rfl⟩ | w2
      · omega
      · rw [cl] at w2; omega
    · rcases w2 with ⟨ex, rfl⟩ | w2
      · rw [if_pos ex]; omega
      · rw [cl, ey] at w2
        simp only [if_true] at w2
        split at w2 <;> split <;> simp_all <;> omega
  refine ⟨h1, h2, e1, e2, i', g', j', k', ?_, q0, fun e => ?_, fun e => ?_, fun e e' => ?_⟩
  · rw [q2 0 (by omega) (fun _ => by split <;> omega) l0]; exact p0
  · obtain ⟨o1, o2, o3⟩ := own e
    refine ⟨o1, ?_⟩
    rw [q2 i' (by omega) o3 o2]; exact (p1 e).2.2
  · obtain ⟨w1, w2, w3⟩ := q1 e
    refine ⟨?_, w3⟩
    rcases w2 with ⟨_, rfl⟩ | w2
    · split <;> omega
    · rw [cl] at p3; omega
  · obtain ⟨o1, o2, o3⟩ := own e
    obtain ⟨w1, w2, w3⟩ := q1 e'
    rcases w2 with ⟨ey, rfl⟩ | w2
    · exact o3 ey
    · omega
end Go.Proofs.Ytkkcblfoaldckaa
