/- slices.Insert at members: walks. Conditions: as each statement says. -/
import Derived.Test.YthcnhibjddomdaaGreatCx
import Derived.Test.YthcnhibjddomdaaGreatM3
import Derived.Test.YthcnhibjddomdaaGreatM2
import Derived.Test.YthcnhibjddomdaaGreatChecked
import Derived.WalkKit
import Derived.WalkSpells
import Derived.WalkLawsBesides
import Derived.Deep.QuietTactic
import Derived.BigQuiet
import Derived.Lib.Hide
import Derived.Lib.AppendZerosOnto
import Derived.Shelf.RegionOpenPlain
import Derived.Shelf.Spec.SlicesInsert
set_option linter.unusedVariables false
set_option linter.unusedSimpArgs false
set_option linter.unusedSectionVars false
namespace Go.Proofs.YthcnhibjddomdaaGreat
open Go Go.RowKit Go.Shelf Go.Lib
set_option maxHeartbeats 4000000 in
set_option maxRecDepth 100000 in
theorem ins_shift (b off n c i vb voff vc : Nat) (cs vs : List Value) (w : World) (hi : i < n) (hn : n ≤ 1000000) (hroom : n + 1 ≤ c) (hvb : vb ≠ b) (hcl : cs.length = n * 2) (hvl : vs.length = 2)
    (hcs : ∀ j v, cs[j]? = some v → w.cell? ⟨b, off + j, none⟩ = some v) (hth : w.there b off ((n + 1) * 2)) (hvs : ∀ j v, vs[j]? = some v → w.cell? ⟨vb, voff + j, none⟩ = some v) (h1c : ∀ v ∈ cs, v.oneCell' = true) (h1v : ∀ v ∈ vs, v.oneCell' = true)
    (tA tB : TypeId) (kA kB : Nat) (hsa : w.shape? vb = some (tA, kA)) (hsb : w.shape? b = some (tB, kB)) (hkB : kB ≠ 0) (hfa : w.frozen? ⟨vb, voff, none⟩ = false) (hfe : w.frozen? ⟨vb, kA, none⟩ = false) :
    Calls Tryz.prog 68 #[.slice (some ⟨b, off, none⟩) n c, .int .i64 i, .slice (some ⟨vb, voff, none⟩) 1 vc] w fun e w' =>
      e = .returned (.slice (some ⟨b, off, none⟩) (n + 1) c) ∧ w' = (w.drew.setCells b (off + (i + 1) * 2) (cs.drop (i * 2))).setCells b (off + i * 2) vs := by
  have hz1 : ¬ ((1 : Int) = 0) := by omega
  have hz2 : ¬ ((i : Int) = (n : Int)) := by omega
  have hs2 : sizeIs Tryz.prog 54 2 = true := by kernel_rfl
  have hov : ∀ lb cb, (callFunc 102 #[.slice (some ⟨vb, voff, none⟩) 1 vc, .slice (some ⟨b, off + (i + 1) * 2, none⟩) lb cb]).run Tryz.prog w = .ok (.value (.bool false)) w := fun lb cb => by
    rw [run_callFunc_extern (P := Tryz.prog) (f := 102) rfl (by kernel_rfl) (by kernel_rfl) (by kernel_rfl) (e := Extern.SlicesOverlaps.overlaps #[22, 22] #[4]) (by kernel_rfl),
      Lib.run_overlaps_apart w 22 4 54 (by kernel_rfl) 2 (fun w => sizeOf_run (P := Tryz.prog) hs2 w) ⟨vb, voff, none⟩ ⟨b, off + (i + 1) * 2, none⟩ 1 vc lb cb hvb tA tB kA kB hsa hsb hkB hfa hfe]
    rfl
  have hdl : (cs.drop (i * 2)).length = (n - i) * 2 := by rw [List.length_drop, hcl, ← Nat.sub_mul]
  have hw1 : IntKind.i64.wrap ((i : Int) + 1) = (i : Int) + 1 := by rw [IntKind.wrap_i64]; omega
  have hw2 : IntKind.i64.wrap ((n : Int) + 1) = (n : Int) + 1 := by rw [IntKind.wrap_i64]; omega
  have hu : (Tryz.prog).underlying 22 = some (.slice 54) := by kernel_rfl
  have hcp1 : ∀ ty dc sc, (Builtin.copy_ #[22, 22] ty #[.slice (some ⟨b, off + (i + 1) * 2, none⟩) (n - i) dc, .slice (some ⟨b, off + i * 2, none⟩) (n + 1 - i) sc]).run Tryz.prog w.drew = .ok (goInt (n - i : Nat)) (w.drew.setCells b (off + (i + 1) * 2) (cs.drop (i * 2))) := fun ty dc sc => by
    have h := run_copy_k (P := Tryz.prog) (w := w.drew) (k := 2) (ts := #[22, 22]) (ty := ty) (t := 22) (e := 54) rfl hu hs2 (b := b) (off := off + (i + 1) * 2) (l := n - i) (cap := dc) (b2 := b) (off2 := off + i * 2) (n2 := n + 1 - i) (cap2 := sc) (us := cs.drop (i * 2))
      (by rw [hdl]; congr 1; omega) (fun j v hj => by rw [Nat.add_assoc]; exact hcs _ v (by rwa [List.getElem?_drop] at hj)) (fun j hj => by
        rw [hdl] at hj
        rw [Nat.add_assoc]
        exact hth _ (by omega)) (fun v hv => h1c v (List.mem_of_mem_drop hv))
    rw [show min (n + 1 - i) (n - i) = n - i by omega] at h
    exact h
  obtain ⟨W1, hW1⟩ : ∃ W1, W1 = w.drew.setCells b (off + (i + 1) * 2) (cs.drop (i * 2)) := ⟨_, rfl⟩
  have hcp2 : ∀ (W : World), (∀ x, W.cell? x = W1.cell? x) → (∀ x, W.frozen? x = W1.frozen? x) → ∀ ty dc, (Builtin.copy_ #[22, 22] ty #[.slice (some ⟨b, off + i * 2, none⟩) (n + 1 - i) dc, .slice (some ⟨vb, voff, none⟩) 1 vc]).run Tryz.prog W = .ok (goInt (1 : Nat)) (W.setCells b (off + i * 2) vs) := fun W hWc hWf ty dc => by
    have h := run_copy_k (P := Tryz.prog) (w := W) (k := 2) (ts := #[22, 22]) (ty := ty) (t := 22) (e := 54) rfl hu hs2 (b := b) (off := off + i * 2) (l := n + 1 - i) (cap := dc) (b2 := vb) (off2 := voff) (n2 := 1) (cap2 := vc) (us := vs)
      (by rw [hvl]; omega) (fun j v hj => by
        rw [hWc, hW1, World.cell?_setCells_out b _ _ _ _ (fun h _ => absurd h hvb)]
        exact hvs j v hj) (fun j hj => by
        rw [hvl] at hj
        refine ⟨?_, ?_⟩
        · rw [hWc, hW1, Nat.add_assoc]
          exact isSome_setCells b _ _ _ (fun t ht => by rw [hdl] at ht; rw [Nat.add_assoc]; exact (hth _ (by omega)).1) _ (hth _ (by omega)).1
        · rw [hWf, hW1, World.frozen?_setCells, Nat.add_assoc]
          exact (hth _ (by omega)).2) h1v
    rw [show min 1 (n + 1 - i) = 1 by omega] at h
    exact h
  rw [← hW1] at hcp1
  have mixed : (Tryz.prog).follows .mixedOrders = true := by kernel_rfl
  have hb1 : (0 : Int) ≤ (i : Int) + 1 := by omega
  have hin : i ≤ n := by omega
  have htn : ((i : Int) + 1).toNat = i + 1 := by omega
  have htn2 : ((n : Int) + 1).toNat = n + 1 := by omega
  have hb2 : ¬ (c = i + 1) := by omega
  have hb3 : (i : Int) ≤ (n : Int) + 1 := by omega
  have hb4 : ¬ (c = i) := by omega
  go_enter Tryz.func68, Tryz.ntmps68
  go_wp2_with (simp only [hov])
  go_region_law_o (refine step_copy_runI rfl _ _ 22 22 rfl _ _ (by simp [Act.eval, Act.put]) (by simp [Act.eval, Act.put]) (hcp1 _ _ _) ?_)
  go_wp2_with (at_builtin; refine wpList_copy_runI _ rfl _ _ 22 22 rfl _ _ rfl rfl (hcp2 _ (fun _ => rfl) (fun _ => rfl) _ _) ?_)
  go_ret
  first | exact ⟨rfl, rfl⟩ | exact ⟨rfl, by rw [hW1]⟩

set_option maxHeartbeats 4000000 in
set_option maxRecDepth 100000 in
theorem ins_grow (b off n c i vb voff vc : Nat) (cs vs : List Value) (w : World) (hi : i < n) (hnc : n ≤ c) (hroom : c < n + 1) (hbig : n ≤ 1000000) (hcl : cs.length = n * 2) (hvl : vs.length = 2) (hbw : b < w.heap.size) (hvw : vb < w.heap.size)
    (hcs : ∀ j v, cs[j]? = some v → w.cell? ⟨b, off + j, none⟩ = some v) (hvs : ∀ j v, vs[j]? = some v → w.cell? ⟨vb, voff + j, none⟩ = some v) (h1c : ∀ v ∈ cs, v.oneCell' = true) (h1v : ∀ v ∈ vs, v.oneCell' = true) :
    ∃ (G : Nat) (ROW : Array Value), n + 1 ≤ G ∧ ROW.size = G * 2 ∧ (∀ j, j < i * 2 → ROW[j]? = cs[j]?) ∧ Calls Tryz.prog 68 #[.slice (some ⟨b, off, none⟩) n c, .int .i64 i, .slice (some ⟨vb, voff, none⟩) 1 vc] w fun e w' =>
      e = .returned (.slice (some ⟨w.heap.size, 0, none⟩) (n + 1) G) ∧ w' = (((w.alloc (.cells ROW 54)).drew.setCells w.heap.size (i * 2) vs).drew).setCells w.heap.size ((i + 1) * 2) (cs.drop (i * 2)) := by
  obtain ⟨i0, hi0, hz0, hzs, hzb⟩ : ∃ i0, (Tryz.prog).info? 54 = some i0 ∧ i0.zero = some (.agg #[.int .i64 0, .int .i64 0]) ∧ i0.size = 2 ∧ i0.bytes = 16 := ⟨_, rfl, by kernel_rfl, by kernel_rfl, by kernel_rfl⟩
  have hu : (Tryz.prog).underlying 22 = some (.slice 54) := by kernel_rfl
  have hu3 : (Tryz.prog).underlying 3 = some (.int .i64) := by kernel_rfl
  have hs2 : sizeIs Tryz.prog 54 2 = true := by kernel_rfl
  have hz1 : ¬ ((1 : Int) = 0) := by omega
  have hz2 : ¬ ((i : Int) = (n : Int)) := by omega
  have hz3 : (c : Int) < (n : Int) + 1 := by omega
  have hkk : (n : Int) + 1 - (i : Int) = ((n + 1 - i : Nat) : Int) := by omega
  have hik : i + (n + 1 - i) = n + 1 := by omega
  have hctl : (cs.take (i * 2)).length = i * 2 := by rw [List.length_take, hcl]; exact Nat.min_eq_left (by omega)
  have hold : (Builtin.firstCells i0.size i (.slice (some ⟨b, off, none⟩) i c)).run Tryz.prog w.drew = .ok (cs.take (i * 2)).toArray w.drew := by
    rw [hzs]
    exact firstCells_run (P := Tryz.prog) (w := w.drew) (k := 2) hctl (.inr ⟨b, off, rfl, fun j v hj => by
      rw [List.getElem?_take] at hj
      split at hj
      · exact hcs j v hj
      · cases hj⟩)
  have hrz : ∀ ty, (Builtin.append_ #[22, 3] ty #[.slice (some ⟨b, off, none⟩) i c, .int .i64 ((n : Int) + 1 - (i : Int))]).run Tryz.prog w =
      .ok (.slice (some ⟨w.heap.size, 0, none⟩) (n + 1) (grownCap w (n + 1) c 54)) (w.drew.alloc (.cells ((cs.take (i * 2)).toArray ++ Builtin.zeroCells (Value.agg #[.int .i64 0, .int .i64 0]).cells (n + 1 - i) ++ Builtin.zeroCells (Value.agg #[.int .i64 0, .int .i64 0]).cells (grownCap w (n + 1) c 54 - (n + 1))) 54)) := fun ty => by
    have h := Lib.run_append_grow_zeros w 22 3 ty 54 i0 _ .i64 .i64 hu hu3 hi0 hz0 (some ⟨b, off, none⟩) i c (cs.take (i * 2)) hold (n + 1 - i) (by omega) (by omega) (by omega) (by omega) (by rw [hzb]; omega) (by rw [hzb, hik]; exact growslice_fits hroom (by omega))
    rw [hik] at h
    rw [hkk]
    exact h
  obtain ⟨G, hG⟩ : ∃ G, G = grownCap w (n + 1) c 54 := ⟨_, rfl⟩
  obtain ⟨ROW, hROW⟩ : ∃ ROW : Array Value, ROW = (cs.take (i * 2)).toArray ++ Builtin.zeroCells (Value.agg #[.int .i64 0, .int .i64 0]).cells (n + 1 - i) ++ Builtin.zeroCells (Value.agg #[.int .i64 0, .int .i64 0]).cells (G - (n + 1)) := ⟨_, rfl⟩
  have hGn : n + 1 ≤ G := by rw [hG]; exact grownCap_ge w _ _ _
  rw [← hG] at hrz
  rw [← hROW] at hrz
  have hRs : ROW.size = G * 2 := by
    rw [hROW, Array.size_append, Array.size_append, size_zeroCells, size_zeroCells, List.size_toArray, hctl]
    show i * 2 + (n + 1 - i) * 2 + (G - (n + 1)) * 2 = G * 2
    omega
  have hRi : ∀ j, j < i * 2 → ROW[j]? = cs[j]? := fun j hj => by
    rw [hROW, Array.append_assoc, Array.getElem?_append_left (by simp [hctl]; omega), List.getElem?_toArray, List.getElem?_take, if_pos hj]
  refine ⟨G, ROW, hGn, hRs, hRi, ?_⟩
  obtain ⟨W1, hW1⟩ : ∃ W1, W1 = w.drew.alloc (.cells ROW 54) := ⟨_, rfl⟩
  rw [← hW1] at hrz
  have hN : ∀ j, j < (n + 1) * 2 → (W1.cell? ⟨w.heap.size, j, none⟩).isSome = true := fun j hj => by
    rw [hW1, World.cell?_alloc_at (w := w.drew) ROW _ w.heap.size j rfl, Array.getElem?_eq_getElem (by omega)]; rfl
  have hNf : ∀ j, W1.frozen? ⟨w.heap.size, j, none⟩ = false := fun j => by rw [hW1]; exact World.frozen?_alloc_at (w := w.drew) ROW _ w.heap.size j rfl
  have hOb : ∀ j v, w.cell? ⟨b, j, none⟩ = some v → W1.cell? ⟨b, j, none⟩ = some v := fun j v h => by rw [hW1, World.cell?_alloc_past (w := w.drew) _ b j hbw]; exact h
  have hOv : ∀ j v, w.cell? ⟨vb, j, none⟩ = some v → W1.cell? ⟨vb, j, none⟩ = some v := fun j v h => by rw [hW1, World.cell?_alloc_past (w := w.drew) _ vb j hvw]; exact h
  have hbN : b ≠ w.heap.size := by omega
  have hdl : (cs.drop (i * 2)).length = (n - i) * 2 := by rw [List.length_drop, hcl, ← Nat.sub_mul]
  have hcpA : ∀ (W : World), (∀ x, W.cell? x = W1.cell? x) → (∀ x, W.frozen? x = W1.frozen? x) → ∀ ty dc, (Builtin.copy_ #[22, 22] ty #[.slice (some ⟨w.heap.size, i * 2, none⟩) (n + 1 - i) dc, .slice (some ⟨vb, voff, none⟩) 1 vc]).run Tryz.prog W = .ok (goInt (1 : Nat)) (W.setCells w.heap.size (i * 2) vs) := fun W hWc hWf ty dc => by
    have h := run_copy_k (P := Tryz.prog) (w := W) (k := 2) (ts := #[22, 22]) (ty := ty) (t := 22) (e := 54) rfl hu hs2 (b := w.heap.size) (off := i * 2) (l := n + 1 - i) (cap := dc) (b2 := vb) (off2 := voff) (n2 := 1) (cap2 := vc) (us := vs)
      (by rw [hvl]; omega) (fun j v hj => by rw [hWc]; exact hOv _ v (hvs j v hj)) (fun j hj => by
        rw [hvl] at hj
        exact ⟨by rw [hWc]; exact hN _ (by omega), by rw [hWf]; exact hNf _⟩) h1v
    rw [show min 1 (n + 1 - i) = 1 by omega] at h
    exact h
  have hcpB : ∀ (W : World), (∀ x, W.cell? x = (W1.setCells w.heap.size (i * 2) vs).cell? x) → (∀ x, W.frozen? x = (W1.setCells w.heap.size (i * 2) vs).frozen? x) → ∀ ty dc sc, (Builtin.copy_ #[22, 22] ty #[.slice (some ⟨w.heap.size, (i + 1) * 2, none⟩) (n - i) dc, .slice (some ⟨b, off + i * 2, none⟩) (n - i) sc]).run Tryz.prog W = .ok (goInt (n - i : Nat)) (W.setCells w.heap.size ((i + 1) * 2) (cs.drop (i * 2))) := fun W hWc hWf ty dc sc => by
    have h := run_copy_k (P := Tryz.prog) (w := W) (k := 2) (ts := #[22, 22]) (ty := ty) (t := 22) (e := 54) rfl hu hs2 (b := w.heap.size) (off := (i + 1) * 2) (l := n - i) (cap := dc) (b2 := b) (off2 := off + i * 2) (n2 := n - i) (cap2 := sc) (us := cs.drop (i * 2))
      (by rw [hdl, Nat.min_self]) (fun j v hj => by
        rw [hWc, World.cell?_setCells_out _ _ _ _ _ (fun h _ => absurd h hbN), Nat.add_assoc]
        exact hOb _ v (hcs _ v (by rwa [List.getElem?_drop] at hj))) (fun j hj => by
        rw [hdl] at hj
        exact ⟨by rw [hWc]; exact isSome_setCells _ _ _ _ (fun t ht => hN _ (by rw [hvl] at ht; omega)) _ (hN _ (by omega)), by rw [hWf, World.frozen?_setCells]; exact hNf _⟩) (fun v hv => h1c v (List.mem_of_mem_drop hv))
    rw [Nat.min_self] at h
    exact h
  have hG63 : G ≤ 9223372036854775807 := by
    have := grownCap_le_maxLen w (n + 1) c 54 (by unfold maxLen; omega)
    rw [← hG] at this
    unfold maxLen at this
    omega
  have hGi : ¬ (G = i) := by omega
  have hGim : ¬ (G = i + 1) := by omega
  have hci : ¬ (c = i) := by omega
  subst hW1
  have hE1 : ∀ x, ((w.alloc (.cells ROW 54)).drew).cell? x = (w.drew.alloc (.cells ROW 54)).cell? x := fun x => rfl
  have hE2 : ∀ x, ((w.alloc (.cells ROW 54)).drew).frozen? x = (w.drew.alloc (.cells ROW 54)).frozen? x := fun x => rfl
  have hF1 : ∀ x, (((w.alloc (.cells ROW 54)).drew.setCells w.heap.size (i * 2) vs).drew).cell? x = ((w.drew.alloc (.cells ROW 54)).setCells w.heap.size (i * 2) vs).cell? x := fun x => rfl
  have hF2 : ∀ x, (((w.alloc (.cells ROW 54)).drew.setCells w.heap.size (i * 2) vs).drew).frozen? x = ((w.drew.alloc (.cells ROW 54)).setCells w.heap.size (i * 2) vs).frozen? x := fun x => rfl
  have mixed : (Tryz.prog).follows .mixedOrders = true := by kernel_rfl
  have hw1 : IntKind.i64.wrap ((i : Int) + 1) = (i : Int) + 1 := by rw [IntKind.wrap_i64]; omega
  have hw2 : IntKind.i64.wrap ((n : Int) + 1) = (n : Int) + 1 := by rw [IntKind.wrap_i64]; omega
  have hb1 : (0 : Int) ≤ (i : Int) + 1 := by omega
  have hin : i ≤ n := by omega
  have htn : ((i : Int) + 1).toNat = i + 1 := by omega
  have hb3 : (i : Int) ≤ (n : Int) := by omega
  clear hkk hik hold hROW hG hRi hRs
  go_enter Tryz.func68, Tryz.ntmps68
  go_wp2_with (first
    | (at_builtin; refine Lib.wpList_append_run _ rfl _ _ _ _ rfl _ _ rfl rfl _ _ (hrz _) ?_)
    | (at_builtin; refine wpList_copy_runI _ rfl _ _ 22 22 rfl _ _ rfl rfl (hcpA _ hE1 hE2 _ _) ?_)
    | (at_builtin; refine wpList_copy_runI _ rfl _ _ 22 22 rfl _ _ rfl rfl (hcpB _ (fun _ => rfl) (fun _ => rfl) _ _ _) ?_))
  go_region_law_o (refine step_copy_runI rfl _ _ 22 22 rfl (.slice (some ⟨w.heap.size, (i + 1) * 2, none⟩) (n - i) (G - (i + 1))) (.slice (some ⟨b, off + i * 2, none⟩) (n - i) (c - i)) (by simp [Act.eval, Act.put]) (by simp [Act.eval, Act.put]) (hcpB _ hF1 hF2 3 (G - (i + 1)) (c - i)) ?_)
  go_wp2
  go_ret
  exact ⟨rfl, rfl⟩

theorem ins_end (G : Nat → Option (List AV)) (h : List ARow) (id id2 g g2 n c2 : Nat) (fl fl2 : Bool) (es es2 : List (List AV)) (x : List AV) (h1 : h[id]? = some ⟨2, g, fl, es⟩) (hl : es.length = n) (h2 : h[id2]? = some ⟨2, g2, fl2, x :: es2⟩) (hn : n ≤ 1000000) :
    aR G (oneF 68 c_slices_Insert_Member) 68 [.own id g 0 n n, .int .i64 n, .own id2 g2 0 1 c2] h = some (.own id (g + 1) 0 (n + 1) (n + 1), h.set id ⟨2, g + 1, fl && fl2, es ++ [x]⟩) := by
  have b1 : (n + 1) * 16 ≤ 140737488355328 := by omega
  have n1 : n + 1 ≤ n ↔ False := by simp
  have tk : List.take n es = es := List.take_of_length_le (by omega)
  have n2 : 1 ≤ es2.length + 1 := by omega
  rw [y_fn G (oneF 68 c_slices_Insert_Member) (fn := c_slices_Insert_Member) rfl]
  (sym => simp [Qb,Qc,Qd,Qe,Qi,Qj,Qr,Qt,Xa,Xl,Xm,Xn,Xy,X0,X8,Yg,Y1,Y2,Y5,Y7,Y9,Za,Zb,Zc,Ze,Zg,Zh,Zi,Zj,Zk,Zl,Zm,Zn,Zr,Zs,Zt,Zu,Zv,Zw,Zx,Zy,Zz,Z0,Z3,Jj,Jk,Jl,Jr,Jv,Jx,Kv,Kx,K0,K1,K2,Ho,Hp,Hs,H8,Nb,Ng,Nh,Ni,Nk,Nl,Nm,Nz,N2,Be,Bg,Bh,q113R0.eq_1,q113R1.eq_1,q113R2.eq_1,q113R3.eq_1,q113R4.eq_1,q113R5.eq_1,q113R6.eq_1,q113R7.eq_1,q113R10.eq_1,q113R11.eq_1,q113R12.eq_1,q113R13.eq_1,q113R14.eq_1,q113R15.eq_1,q113R16.eq_1,q113R17.eq_1,q113R18.eq_1,q113R19.eq_1,q113R20.eq_1,c_slices_Insert_Member.eq_1,h1,h2,hl,b1,n1,n2,tk])
theorem ext_slices_Insert_Member (G : Nat → Option (List AV)) : ∀ args h v h', extInsert 2 args h = some (v, h') → KeepK h h' ∧ (∃ fn, (Tryz.prog).funcs[68]? = some fn ∧ fn.name ≠ "runtime.NumGoroutine" ∧ fn.body.isSome = true) ∧
    ∀ (ρ : Rho) (w : World) (S O : Nat → Prop) (xs : List Value), Heap ρ w S O h → (∀ g cs, G g = some cs → RepV ρ w S O (.dptr cs) (.pointer (some ⟨g, 0, none⟩))) → RepL (RepV ρ w S O) args xs →
      Calls Tryz.prog 68 xs.toArray w fun e w' => ∃ x, e = .returned x ∧ ResW ρ w S O h v h' x w' := by
  intro args h v h' he
  have K := aR_ok mixFT (oneF_ok G chk_slices_Insert_Member)
  have any := K 68 [.own 0 0 0 0 0, .int .i64 0, .own 1 0 0 1 1] [⟨2, 0, true, []⟩, ⟨2, 0, true, [[]]⟩] _ _ (ins_end G [⟨2, 0, true, []⟩, ⟨2, 0, true, [[]]⟩] 0 1 0 0 0 1 true true [] [] [] rfl rfl rfl (by omega))
  unfold extInsert at he
  split at he
  case h_2 => cases he
  rename_i id g s n c i id2 g2 s2 m c2
  obtain ⟨r, hr, he⟩ := opt_bind_some.1 he
  obtain ⟨r2, hr2, he⟩ := opt_bind_some.1 he
  split at he
  case h_2 => cases he
  rename_i x es2 hes2
  split at he
  case isFalse => cases he
  rename_i hc
  cases he
  obtain ⟨rfl, rfl, rfl, rfl, hne, hg, hk, hl, hg2, hk2, hi0, hin, hn⟩ := hc
  obtain ⟨k, gr, fl, es⟩ := r
  obtain ⟨k2, gr2, fl2, es2'⟩ := r2
  simp only at hg hk hl hg2 hk2 hes2
  subst hg hk hg2 hk2 hes2
  obtain ⟨i, rfl⟩ : ∃ j : Nat, i = j := ⟨i.toNat, by omega⟩
  simp only [Int.toNat_natCast]
  refine ⟨KeepK.set hr rfl, any.1, fun ρ w S O xs H hG hargs => ?_⟩
  by_cases hie : i = n
  · subst hie
    have := (K 68 _ h _ _ (ins_end G h id id2 gr gr2 i c2 fl fl2 es es2 x hr hl hr2 hn)).2 ρ w S O xs H hG hargs
    rw [List.take_of_length_le (by omega), List.drop_of_length_le (by omega), List.append_nil]
    exact this
  have hi : i < n := by omega
  cases xs with
  | nil => have := hargs.1; simp at this
  | cons x0 xs =>
  obtain ⟨hx0, hr0⟩ := hargs.uncons
  cases xs with
  | nil => have := hr0.1; simp at this
  | cons x1 xs =>
  obtain ⟨hx1, hr1⟩ := hr0.uncons
  cases xs with
  | nil => have := hr1.1; simp at this
  | cons x2 xs =>
  obtain ⟨hx2, hr3⟩ := hr1.uncons
  have : xs = [] := List.eq_nil_of_length_eq_zero (by have := hr3.1; simpa using this.symm)
  subst this
  have e1 : x1 = .int .i64 i := rv_int hx1
  subst e1
  -- where they lie
  obtain ⟨g', pl, ad, cap, hz, hρ, hle, hlc, _, has, hpl⟩ := rv_own hx0
  obtain ⟨hg', his⟩ := H.at hρ hr
  have hgg : gr = g' := hg'
  subst hgg
  rcases hpl rfl with hc0 | ⟨p, rfl, had, hlim⟩
  · omega
  obtain ⟨g2', pl2, ad2, cap2, hz2, hρ2, hle2, hlc2, _, has2, hpl2⟩ := rv_own hx2
  obtain ⟨hg2', his2⟩ := H.at hρ2 hr2
  have hgg2 : gr2 = g2' := hg2'
  subst hgg2
  rcases hpl2 rfl with hc02 | ⟨p2, rfl, had2, hlim2⟩
  · omega
  have R1 : RowRep ρ w S O ⟨2, gr, fl, es⟩ p := his
  have R2 : RowRep ρ w S O ⟨2, gr2, fl2, x :: es2⟩ p2 := his2
  have hpk : p.k = 2 := R1.k
  have hpk2 : p2.k = 2 := R2.k
  obtain ⟨adx, capx, us, hzx, _, hkl, hq, hcx⟩ := groups_cells H hx0 (k := 2) (es := es) (fl := fl) (by simp [agroups, hr, hl, List.take_of_length_le (show es.length ≤ n by omega)])
  obtain ⟨ady, capy, us2, hzy, _, hkl2, hq2, hcy⟩ := groups_cells H hx2 (k := 2) (es := [x]) (fl := fl2) (by simp [agroups, hr2])
  have hul : us.length = n * 2 := by rw [← hq.1, flatten_len hkl, hl]
  have hul2 : us2.length = 2 := by rw [← hq2.1, flatten_len hkl2]; rfl
  have hxl : x.length = 2 := hkl2 x (by simp)
  rw [List.flatten_cons, List.flatten_nil, List.append_nil] at hq2
  rcases hcx with h0 | ⟨b, off, hadx, hcells⟩
  · rw [h0] at hul; simp at hul; omega
  rcases hcy with h0 | ⟨vb, voff, hady, hcells2⟩
  · rw [h0] at hul2; simp at hul2
  rw [hl] at hzx
  rw [hz] at hzx
  obtain ⟨rfl, rfl⟩ : ad = adx ∧ cap = capx := by cases hzx; exact ⟨rfl, rfl⟩
  rw [show ([x] : List (List AV)).length = 1 from rfl, hz2] at hzy
  obtain ⟨rfl, rfl⟩ : ad2 = ady ∧ cap2 = capy := by cases hzy; exact ⟨rfl, rfl⟩
  rw [hadx] at had
  rw [hady] at had2
  simp only [Nat.zero_mul, Nat.add_zero, Option.some.injEq, Addr.mk.injEq, and_true] at had had2
  obtain ⟨rfl, rfl⟩ := had
  obtain ⟨rfl, rfl⟩ := had2
  subst hadx hady
  have hvb : p2.b ≠ p.b := fun e => hne (H.inj id id2 _ _ p p2 hρ hρ2 e.symm)
  have hlt1 := R1.lt
  have hlt2 := R2.lt
  obtain ⟨arr, ty, lo, hi', hb, hbs, hfz, _⟩ := R1.block
  obtain ⟨arr2, ty2, lo2, hi2, hb2, hbs2, hfz2, _⟩ := R2.block
  have hlo2 : lo2 = hi2 := hfz2.2.2 (by show (2 : Nat) ≠ 1; decide)
  have h1c := hq.one
  have h1v := hq2.one
  subst hz hz2
  rw [hpk] at hbs
  have hcapl : cap * 2 ≤ p.lim * 2 := Nat.mul_le_mul_right _ (by omega)
  have finE : (es.take i ++ [x] ++ es.drop i).length = n + 1 := insert_len (k := 2) hl (by omega)
  have finK := insert_k (i := i) hkl hxl
  have finC := cells_insert hkl i hq hq2
  have other : ∀ (id' g' : Nat) q, id' ≠ id → ρ id' = some (g', some q) → q.b ≠ p.b ∧ q.b < w.heap.size := fun id' g' q hid' hq' => by
    obtain ⟨r', _, _, hR'⟩ := H.row id' g' _ hq'
    exact ⟨fun e => hid' (H.inj id' id _ _ q p hq' hρ e), RowRep.lt (show RowRep ρ w S O r' q from hR')⟩
  by_cases hroom : n + 1 ≤ cap
  · -- in its own cells
    have hth : w.there p.b p.base ((n + 1) * 2) := row_there R1 (by omega)
    refine Calls.mono (ins_shift p.b p.base n cap i p2.b p2.base cap2 us us2 w hi hn hroom hvb hul hul2 hcells hth hcells2 h1c h1v ty2 ty arr2.size arr.size (by simp [World.shape?, hb2]) (by simp [World.shape?, hb]) (by omega)
      (by simp [World.frozen?, hb2, hlo2]) (by simp [World.frozen?, hb2, hlo2])) fun e w' ⟨e1, e2⟩ => ?_
    subst e1 e2
    have hA : AdvW w O ((w.drew.setCells p.b (p.base + (i + 1) * 2) (us.drop (i * 2))).setCells p.b (p.base + i * 2) us2) O := ((AdvW.drew w O).trans (AdvW.setCells _ R1.own _ _)).trans (AdvW.setCells _ R1.own _ _)
    have hdl : (us.drop (i * 2)).length = n * 2 - i * 2 := by rw [List.length_drop, hul]
    have blk := setCells_block us2 p.b (p.base + i * 2) _ _ ty (lo, hi') (setCells_block (us.drop (i * 2)) p.b (p.base + (i + 1) * 2) w.drew arr ty (lo, hi') hb (by rw [hdl]; omega)) (by rw [hul2, List.size_toArray, length_patchV (by rw [hdl, Array.length_toList]; omega), Array.length_toList]; omega)
    have hL : (patchV (p.base + i * 2) us2 (patchV (p.base + (i + 1) * 2) (us.drop (i * 2)) arr.toList)).length = arr.size := by
      rw [length_patchV (by rw [hul2, length_patchV (by rw [hdl, Array.length_toList]; omega), Array.length_toList]; omega), length_patchV (by rw [hdl, Array.length_toList]; omega), Array.length_toList]
    obtain ⟨H2, E2⟩ := H.place (r' := ⟨2, gr + 1, fl && fl2, es.take i ++ [x] ++ es.drop i⟩) (p' := ⟨p.b, p.base, 2, cap⟩) hρ rfl hA (fun b hb => by rw [setCells_size, setCells_size]; exact H.bd b (.inr hb))
      (fun id' g' q hid' hq' => ⟨by rw [setCells_other _ _ _ _ _ (other id' g' q hid' hq').1, setCells_other _ _ _ _ _ (other id' g' q hid' hq').1]; rfl, (other id' g' q hid' hq').1⟩)
      (RowRep.ofFlat (vs := us.take (i * 2) ++ us2 ++ us.drop (i * 2)) rfl (by simp only; rw [finE]; exact hroom) R1.own finK blk (by simp only [List.size_toArray]; rw [List.size_toArray] at *; rw [hL]; omega)
        ⟨hfz.1, fun j hj => hfz.2.1 j (by simpa [hL] using hj), fun _ => hfz.2.2 (by show (2 : Nat) ≠ 1; decide)⟩ (fun j hj => by
          rw [List.getElem?_toArray]
          refine patch_insert1 (n := n) hul hul2 (by omega) (by rw [Array.length_toList]; omega) (fun j hj => ?_) j hj
          have hjn : j < us.length := by omega
          have := hcells j _ (List.getElem?_eq_getElem hjn)
          simp only [World.cell?, hb] at this
          rw [Array.getElem?_toList, List.getElem?_eq_getElem hjn]
          exact this) (finC.adv (by
            intro i0 g0 pl0 h0
            by_cases e : i0 = id
            · subst e; rw [hρ] at h0; cases h0; exact ⟨_, _, upd_same ρ _ _, Nat.le_succ _, fun e => by omega⟩
            · exact ⟨g0, pl0, by rw [upd_ne ρ _ e]; exact h0, Nat.le_refl _, fun _ => rfl⟩) hA))
    refine ⟨_, rfl, _, O, hA.x, E2, H2, ?_, fun j hj hn => by rw [upd_ne ρ _ (fun e => by rw [e, hρ] at hn; cases hn)]; exact hn⟩
    exact .own _ _ _ _ 0 _ _ _ cap (upd_same ρ _ _) (Nat.le_refl _) hroom hroom (fun _ => rfl) (fun _ => .inr ⟨_, rfl, by simp, by simp⟩)
  · -- in new cells
    obtain ⟨G0, ROW, hG1, hRs, hRi, hcall⟩ := ins_grow p.b p.base n cap i p2.b p2.base cap2 us us2 w hi hlc (by omega) hn hul hul2 hlt1 hlt2 hcells hcells2 h1c h1v
    refine Calls.mono hcall fun e w' ⟨e1, e2⟩ => ?_
    subst e1 e2
    have hA : AdvW w O (((w.alloc (.cells ROW 54)).drew.setCells w.heap.size (i * 2) us2).drew.setCells w.heap.size ((i + 1) * 2) (us.drop (i * 2))) (fun b => O b ∨ b = w.heap.size) :=
      ((((AdvW.alloc w O _).trans (AdvW.drew _ _)).trans (AdvW.setCells _ (.inr rfl) _ _)).trans (AdvW.drew _ _)).trans (AdvW.setCells _ (.inr rfl) _ _)
    have hdl : (us.drop (i * 2)).length = n * 2 - i * 2 := by rw [List.length_drop, hul]
    have hb0 : ((w.alloc (.cells ROW 54)).drew).heap[w.heap.size]? = some (.cells ROW 54 (0, 0)) := heap_alloc_new _ _
    have hRt : ROW.toList.length = G0 * 2 := by rw [Array.length_toList, hRs]
    have blk := setCells_block (us.drop (i * 2)) w.heap.size ((i + 1) * 2) (((w.alloc (.cells ROW 54)).drew.setCells w.heap.size (i * 2) us2).drew) _ 54 (0, 0) (setCells_block us2 w.heap.size (i * 2) ((w.alloc (.cells ROW 54)).drew) ROW 54 (0, 0) hb0 (by rw [hul2, hRs]; omega)) (by rw [hdl, List.size_toArray, length_patchV (by rw [hul2, hRt]; omega), hRt]; omega)
    have hL : (patchV ((i + 1) * 2) (us.drop (i * 2)) (patchV (i * 2) us2 ROW.toList)).length = G0 * 2 := by
      rw [length_patchV (by rw [hdl, length_patchV (by rw [hul2, hRt]; omega), hRt]; omega), length_patchV (by rw [hul2, hRt]; omega), hRt]
    obtain ⟨H2, E2⟩ := H.place (r' := ⟨2, gr + 1, fl && fl2, es.take i ++ [x] ++ es.drop i⟩) (p' := ⟨w.heap.size, 0, 2, G0⟩) hρ rfl hA (fun b hb => by
        have : (((w.alloc (.cells ROW 54)).drew.setCells w.heap.size (i * 2) us2).drew.setCells w.heap.size ((i + 1) * 2) (us.drop (i * 2))).heap.size = w.heap.size + 1 := by
          rw [setCells_size]; show ((w.alloc (.cells ROW 54)).drew.setCells w.heap.size (i * 2) us2).heap.size = _; rw [setCells_size]; show (w.alloc (.cells ROW 54)).heap.size = _; simp
        rw [this]
        rcases hb with hb | rfl
        · have := H.bd b (.inr hb); omega
        · omega)
      (fun id' g' q hid' hq' => by
        have hlt := (other id' g' q hid' hq').2
        refine ⟨?_, by show q.b ≠ w.heap.size; omega⟩
        rw [setCells_other _ _ _ _ _ (by omega)]
        show ((w.alloc (.cells ROW 54)).drew.setCells w.heap.size (i * 2) us2).heap[q.b]? = _
        rw [setCells_other _ _ _ _ _ (by omega)]
        exact Below.heap_alloc w _ q.b hlt)
      (RowRep.ofFlat (vs := us.take (i * 2) ++ us2 ++ us.drop (i * 2)) rfl (by simp only; rw [finE]; exact hG1) (.inr rfl) finK blk (by simp only [List.size_toArray]; rw [hL]; omega)
        ⟨Nat.le_refl _, fun j _ => by omega, fun _ => rfl⟩ (fun j hj => by
          rw [List.getElem?_toArray]
          have hp := patch_insert2 (base := 0) (n := n) (k := 2) hul hul2 (by omega) (by rw [hRt]; omega) (fun j hj => (by
            rw [Nat.zero_add, Array.getElem?_toList]; exact hRi j hj)) j hj
          simpa only [Nat.zero_add] using hp) (finC.adv (by
            intro i0 g0 pl0 h0
            by_cases e : i0 = id
            · subst e; rw [hρ] at h0; cases h0; exact ⟨_, _, upd_same ρ _ _, Nat.le_succ _, fun e => by omega⟩
            · exact ⟨g0, pl0, by rw [upd_ne ρ _ e]; exact h0, Nat.le_refl _, fun _ => rfl⟩) hA))
    refine ⟨_, rfl, _, _, hA.x, E2, H2, ?_, fun j hj hn => by rw [upd_ne ρ _ (fun e => by rw [e, hρ] at hn; cases hn)]; exact hn⟩
    exact .own _ _ _ _ 0 _ _ _ G0 (upd_same ρ _ _) (Nat.le_refl _) hG1 hG1 (fun _ => rfl) (fun _ => .inr ⟨_, rfl, by simp, by simp⟩)
end Go.Proofs.YthcnhibjddomdaaGreat
