/- Cells in a row: lists of them, and what a row holds behind a store. Conditions: none. -/
import Derived.Test.YtfnonledcniojaaAmL
namespace Go.Proofs.Ytfnonledcniojaa
open Go Go.RowKit

/-- Values that stand for cells, one by one. -/
def CellsP (Q : AV → Value → Prop) (cs : List AV) (vs : List Value) : Prop := cs.length = vs.length ∧ ∀ (i : Nat) c v, cs[i]? = some c → vs[i]? = some v → Q c v
section
variable {Q Q' : AV → Value → Prop} {cs ds : List AV} {vs us : List Value}
theorem CellsP.nil : CellsP Q [] [] := ⟨rfl, fun i c v h => by simp at h⟩
theorem CellsP.mono (h : CellsP Q cs vs) (hq : ∀ c v, c ∈ cs → Q c v → Q' c v) : CellsP Q' cs vs := ⟨h.1, fun i c v hc hv => hq c v (List.mem_of_getElem? hc) (h.2 i c v hc hv)⟩
theorem CellsP.append (h : CellsP Q cs vs) (k : CellsP Q ds us) : CellsP Q (cs ++ ds) (vs ++ us) := by
  refine ⟨by simp [h.1, k.1], fun i c v hc hv => ?_⟩
  by_cases hi : i < cs.length
  · rw [List.getElem?_append_left hi] at hc
    rw [List.getElem?_append_left (by rw [← h.1]; exact hi)] at hv
    exact h.2 i c v hc hv
  · rw [List.getElem?_append_right (by omega)] at hc
    rw [List.getElem?_append_right (by rw [← h.1]; omega)] at hv
    rw [← h.1] at hv
    exact k.2 _ c v hc hv
theorem CellsP.take (h : CellsP Q cs vs) (n : Nat) : CellsP Q (cs.take n) (vs.take n) := by
  refine ⟨by simp [h.1], fun i c v hc hv => ?_⟩
  rw [List.getElem?_take] at hc hv
  split at hc
  · rename_i hi; rw [if_pos hi] at hv; exact h.2 i c v hc hv
  · cases hc
theorem CellsP.drop (h : CellsP Q cs vs) (n : Nat) : CellsP Q (cs.drop n) (vs.drop n) := by
  refine ⟨by simp [h.1], fun i c v hc hv => ?_⟩
  rw [List.getElem?_drop] at hc hv
  exact h.2 _ c v hc hv
def patchV (off : Nat) (us vs : List Value) : List Value := vs.take off ++ us ++ vs.drop (off + us.length)
theorem CellsP.patch (h : CellsP Q cs vs) (k : CellsP Q ds us) (off : Nat) : CellsP Q (patch off ds cs) (patchV off us vs) := by
  unfold Go.Proofs.Ytfnonledcniojaa.patch patchV
  rw [← k.1]
  exact ((h.take off).append k).append (h.drop _)
theorem length_patchV {off : Nat} (h : off + us.length ≤ vs.length) : (patchV off us vs).length = vs.length := by simp [patchV]; omega
theorem length_patch {off : Nat} (h : off + ds.length ≤ cs.length) : (patch off ds cs).length = cs.length := by simp [patch]; omega
theorem getElem?_patchV {off : Nat} (h : off + us.length ≤ vs.length) (i : Nat) : (patchV off us vs)[i]? = if off ≤ i ∧ i < off + us.length then us[i - off]? else vs[i]? := by
  unfold patchV
  have h1 : (vs.take off).length = off := by simp; omega
  by_cases ha : i < off
  · rw [if_neg (by omega), List.append_assoc, List.getElem?_append_left (by omega), List.getElem?_take, if_pos ha]
  · by_cases hb : i < off + us.length
    · rw [if_pos (by omega), List.append_assoc, List.getElem?_append_right (by omega), h1, List.getElem?_append_left (by omega)]
    · rw [if_neg (by omega), List.getElem?_append_right (by simp; omega), List.getElem?_drop]
      congr 1
      simp; omega

/-! ### Lists of groups as one list -/
theorem flatten_len : ∀ {es : List (List AV)} {k : Nat}, (∀ g ∈ es, g.length = k) → es.flatten.length = es.length * k
  | [], _, _ => by simp
  | g :: es, k, h => by
    rw [List.flatten_cons, List.length_append, h g (by simp), flatten_len (fun g hg => h g (by simp [hg])), List.length_cons, Nat.add_mul]
    omega
theorem flatten_get : ∀ {es : List (List AV)} {k : Nat}, (∀ g ∈ es, g.length = k) → ∀ {e j : Nat} {g : List AV}, es[e]? = some g → j < k → es.flatten[e * k + j]? = g[j]?
  | [], _, _, e, j, g, h, _ => by simp at h
  | g0 :: es, k, h, e, j, g, hg, hj => by
    have h0 := h g0 (by simp)
    cases e with
    | zero =>
      simp at hg
      subst hg
      rw [List.flatten_cons, List.getElem?_append_left (by omega)]
      congr 1; omega
    | succ e =>
      rw [List.flatten_cons, List.getElem?_append_right (by rw [h0, Nat.add_mul]; omega)]
      rw [show (e + 1) * k + j - g0.length = e * k + j from by rw [h0, Nat.add_mul]; omega]
      exact flatten_get (fun g hg => h g (by simp [hg])) (by simpa using hg) hj
theorem flatten_take : ∀ {es : List (List AV)} {k : Nat}, (∀ g ∈ es, g.length = k) → ∀ (n : Nat), (es.take n).flatten = es.flatten.take (n * k)
  | [], _, _, n => by simp
  | g :: es, k, h, 0 => by simp
  | g :: es, k, h, n + 1 => by
    have h0 := h g (by simp)
    have e : (n + 1) * k = g.length + n * k := by rw [h0, Nat.add_mul]; omega
    rw [List.take_succ_cons, List.flatten_cons, List.flatten_cons, flatten_take (fun g hg => h g (by simp [hg])) n, e, List.take_length_add_append]
theorem flatten_drop : ∀ {es : List (List AV)} {k : Nat}, (∀ g ∈ es, g.length = k) → ∀ (n : Nat), (es.drop n).flatten = es.flatten.drop (n * k)
  | [], _, _, n => by simp
  | g :: es, k, h, 0 => by simp
  | g :: es, k, h, n + 1 => by
    have h0 := h g (by simp)
    have e : (n + 1) * k = g.length + n * k := by rw [h0, Nat.add_mul]; omega
    rw [List.drop_succ_cons, List.flatten_cons, flatten_drop (fun g hg => h g (by simp [hg])) n, e, List.drop_length_add_append]
theorem flatten_set : ∀ {es : List (List AV)} {k : Nat}, (∀ g ∈ es, g.length = k) → ∀ {e : Nat} {g : List AV} (off : Nat) (ds : List AV), es[e]? = some g → off + ds.length ≤ k →
    (es.set e (patch off ds g)).flatten = patch (e * k + off) ds es.flatten
  | [], _, _, e, g, _, _, h, _ => by simp at h
  | g0 :: es, k, h, e, g, off, ds, hg, hle => by
    have h0 := h g0 (by simp)
    cases e with
    | zero =>
      simp at hg
      subst hg
      rw [List.set_cons_zero, List.flatten_cons, List.flatten_cons]
      unfold patch
      rw [Nat.zero_mul, Nat.zero_add, List.take_append_of_le_length (by omega), List.drop_append_of_le_length (by omega), List.append_assoc, List.append_assoc]
    | succ e =>
      rw [List.set_cons_succ, List.flatten_cons, List.flatten_cons, flatten_set (fun g hg => h g (by simp [hg])) off ds (by simpa using hg) hle]
      unfold patch
      have e1 : (e + 1) * k + off = g0.length + (e * k + off) := by rw [h0, Nat.add_mul]; omega
      rw [e1, List.take_length_add_append, Nat.add_assoc g0.length, List.drop_length_add_append]
      simp [List.append_assoc]
theorem patch_whole (ds g : List AV) (h : ds.length = g.length) : patch 0 ds g = ds := by
  unfold patch
  simp [h]
theorem flatten_set_whole {es : List (List AV)} {k : Nat} (h : ∀ g ∈ es, g.length = k) {e : Nat} {g ds : List AV} (hg : es[e]? = some g) (hd : ds.length = k) : (es.set e ds).flatten = patch (e * k) ds es.flatten := by
  have := flatten_set h 0 ds hg (by omega)
  rwa [patch_whole ds g (by rw [hd, h g (List.mem_of_getElem? hg)]), Nat.add_zero] at this
end

section
variable {ρ : Rho} {w : World} {S O : Nat → Prop}
/-- What a row's cell is. -/
def CellQ (ρ : Rho) (w : World) (S O : Nat → Prop) (flat : Bool) (c : AV) (x : Value) : Prop := x.oneCell' = true ∧ RepV ρ w S O c x ∧ (flat = true → RepS w (fun b => S b ∨ O b) c x)
theorem CellQ.adv {ρ' : Rho} {w' : World} {O' : Nat → Prop} {f : Bool} {c : AV} {x : Value} (h : CellQ ρ w S O f c x) (e : Ext ρ ρ') (a : AdvW w O w' O') : CellQ ρ' w' S O' f c x := ⟨h.1, h.2.1.adv e a, fun hf => (h.2.2 hf).adv a⟩
theorem CellQ.weak {f f' : Bool} {c : AV} {x : Value} (h : CellQ ρ w S O f c x) (hf : f' = true → f = true) : CellQ ρ w S O f' c x := ⟨h.1, h.2.1, fun h' => h.2.2 (hf h')⟩
theorem CellsP.adv {ρ' : Rho} {w' : World} {O' : Nat → Prop} {f : Bool} {cs : List AV} {vs : List Value} (h : CellsP (CellQ ρ w S O f) cs vs) (e : Ext ρ ρ') (a : AdvW w O w' O') : CellsP (CellQ ρ' w' S O' f) cs vs := h.mono fun _ _ _ hq => hq.adv e a
theorem CellsP.weak {f f' : Bool} {cs : List AV} {vs : List Value} (h : CellsP (CellQ ρ w S O f) cs vs) (hf : f' = true → f = true) : CellsP (CellQ ρ w S O f') cs vs := h.mono fun _ _ _ hq => hq.weak hf
/-- A value's cells, with what is stable told. -/
theorem cells_of {v : AV} {x : Value} {cs : List AV} (h : RepV ρ w S O v x) (hc : v.cells = some cs) : ∃ vs : List Value, x.cells = vs.toArray ∧ CellsP (CellQ ρ w S O (AV.stableL cs)) cs vs := by
  obtain ⟨vs, h1, h2, h3, h4⟩ := rv_cells h hc
  exact ⟨vs, h1, h2, fun i c v hc hv => ⟨h3 v (List.mem_of_getElem? hv), h4 i c v hc hv, fun hs => rv_stable (h4 i c v hc hv) (stableL_at hs i c hc)⟩⟩
theorem consts_cells {vs : List Value} {cs : List AV} (h : chkConsts vs cs = true) : CellsP (CellQ ρ w S O true) cs vs := by
  obtain ⟨h1, h2, h3⟩ := consts_rep (w := w) (X := fun b => S b ∨ O b) h
  exact ⟨h1, fun i c v hc hv => ⟨h2 v (List.mem_of_getElem? hv), .s (h3 i c v hc hv), fun _ => h3 i c v hc hv⟩⟩
theorem CellsP.one {f : Bool} {cs : List AV} {vs : List Value} (h : CellsP (CellQ ρ w S O f) cs vs) : ∀ v ∈ vs, v.oneCell' = true := fun v hv => by
  obtain ⟨i, hi⟩ := List.mem_iff_getElem?.1 hv
  have hlt : i < cs.length := by have := (List.getElem?_eq_some_iff.1 hi).1; rw [h.1]; exact this
  exact (h.2 i _ v (List.getElem?_eq_getElem hlt) hi).1

/-- A row as one list of cells. -/
theorem RowRep.flat {r : ARow} {p : Pl} (R : RowRep ρ w S O r p) : ∃ arr ty lo hi vs, w.heap[p.b]? = some (.cells arr ty (lo, hi)) ∧ p.base + p.lim * p.k ≤ arr.size ∧ (lo ≤ hi ∧ ∀ j, j < arr.size → ¬ (lo ≤ j ∧ j < hi)) ∧
    (∀ i, i < vs.length → arr[p.base + i]? = vs[i]?) ∧ CellsP (CellQ ρ w S O r.flat) r.es.flatten vs := by
  obtain ⟨arr, ty, lo, hi, h1, h2, h3, h4⟩ := R.block
  have hfl := flatten_len R.len
  have hk := R.k
  have hlim : p.base + r.es.length * r.k ≤ arr.size := by
    have := Nat.mul_le_mul_right r.k R.lim
    rw [hk] at h2; omega
  refine ⟨arr, ty, lo, hi, (arr.toList.drop p.base).take (r.es.length * r.k), h1, h2, h3, fun i hi => ?_, ?_, fun i c v hc hv => ?_⟩
  · simp only [List.length_take, List.length_drop, Array.length_toList] at hi
    rw [List.getElem?_take, if_pos (by omega), List.getElem?_drop, Array.getElem?_toList]
  · simp [hfl]; omega
  · have hlt : i < r.es.length * r.k := by have := (List.getElem?_eq_some_iff.1 hc).1; omega
    have hk0 : 0 < r.k := by rcases Nat.eq_zero_or_pos r.k with h | h; (rw [h] at hlt; omega); exact h
    have he : i / r.k < r.es.length := by rw [Nat.div_lt_iff_lt_mul hk0]; exact hlt
    have hj : i % r.k < r.k := Nat.mod_lt _ hk0
    have hij : i / r.k * r.k + i % r.k = i := Nat.div_add_mod' i r.k
    have hg := List.getElem?_eq_getElem he
    have hc' := flatten_get R.len hg hj
    rw [hij, hc] at hc'
    obtain ⟨x, hx, hx1, hx2, hx3⟩ := h4 _ _ _ c hg hc'.symm
    have : x = v := by
      rw [hk, Nat.add_assoc, hij] at hx
      rw [List.getElem?_take, if_pos hlt, List.getElem?_drop, Array.getElem?_toList, hx] at hv
      exact Option.some.inj hv
    subst this
    exact ⟨hx1, hx2, hx3⟩
theorem RowRep.ofFlat {r : ARow} {p : Pl} {arr : Array Value} {ty : TypeId} {lo hi : Nat} {vs : List Value} (hk : p.k = r.k) (hl : r.es.length ≤ p.lim) (hO : O p.b) (hlen : ∀ g ∈ r.es, g.length = r.k)
    (h1 : w.heap[p.b]? = some (.cells arr ty (lo, hi))) (h2 : p.base + p.lim * p.k ≤ arr.size) (h3 : lo ≤ hi ∧ ∀ j, j < arr.size → ¬ (lo ≤ j ∧ j < hi))
    (h4 : ∀ i, i < vs.length → arr[p.base + i]? = vs[i]?) (h5 : CellsP (CellQ ρ w S O r.flat) r.es.flatten vs) : RowRep ρ w S O r p := by
  refine ⟨hk, hl, hO, hlen, arr, ty, lo, hi, h1, h2, h3, fun e j g c hg hc => ?_⟩
  have hj : j < r.k := by have := (List.getElem?_eq_some_iff.1 hc).1; rwa [hlen g (List.mem_of_getElem? hg)] at this
  have hf := flatten_get hlen hg hj
  rw [hc] at hf
  have hlt : e * r.k + j < vs.length := by have := (List.getElem?_eq_some_iff.1 hf).1; rw [← h5.1]; exact this
  have hv := List.getElem?_eq_getElem hlt
  obtain ⟨q1, q2, q3⟩ := h5.2 _ _ _ hf hv
  exact ⟨vs[e * r.k + j], by rw [hk, Nat.add_assoc, h4 _ hlt, hv], q1, q2, q3⟩

/-! ### A store of some cells into a block -/
theorem setCells_block : ∀ (vs : List Value) (b o : Nat) (w : World) (arr : Array Value) (ty : TypeId) (fr : Nat × Nat), w.heap[b]? = some (.cells arr ty fr) → o + vs.length ≤ arr.size →
    (w.setCells b o vs).heap[b]? = some (.cells (patchV o vs arr.toList).toArray ty fr)
  | [], b, o, w, arr, ty, fr, h, _ => by simp [World.setCells, patchV, h]
  | v :: vs, b, o, w, arr, ty, fr, h, hl => by
    simp only [List.length_cons] at hl
    have h1 : (w.setCell ⟨b, o, none⟩ v).heap[b]? = some (.cells (arr.setIfInBounds o v) ty fr) := by
      rw [setCell_eq_setRow w b o arr ty fr v h]
      exact setRow_heap w b arr _ ty fr h
    show ((w.setCell ⟨b, o, none⟩ v).setCells b (o + 1) vs).heap[b]? = _
    rw [setCells_block vs b (o + 1) _ _ ty fr h1 (by simp; omega)]
    have e : patchV (o + 1) vs (arr.setIfInBounds o v).toList = patchV o (v :: vs) arr.toList := by
      apply List.ext_getElem?
      intro i
      rw [getElem?_patchV (by simp; omega), getElem?_patchV (by simp; omega)]
      simp only [Array.toList_setIfInBounds, List.getElem?_set, List.length_cons, Array.length_toList]
      by_cases h2 : o = i
      · subst h2
        rw [if_neg (by omega), if_pos rfl, if_pos (by omega), if_pos (by omega)]
        simp
      · by_cases h3 : o + 1 ≤ i ∧ i < o + 1 + vs.length
        · rw [if_pos h3, if_pos (by omega)]
          rw [show i - o = (i - (o + 1)) + 1 from by omega, List.getElem?_cons_succ]
        · rw [if_neg h3, if_neg h2, if_neg (by omega)]
    rw [e]
theorem setCells_other : ∀ (vs : List Value) (b o : Nat) (w : World) (k : Nat), k ≠ b → (w.setCells b o vs).heap[k]? = w.heap[k]?
  | [], _, _, _, _, _ => rfl
  | v :: vs, b, o, w, k, h => by
    show ((w.setCell ⟨b, o, none⟩ v).setCells b (o + 1) vs).heap[k]? = _
    rw [setCells_other vs b (o + 1) _ k h]
    exact Below.heap_setCell w ⟨b, o, none⟩ v k h
theorem setCells_size : ∀ (vs : List Value) (b o : Nat) (w : World), (w.setCells b o vs).heap.size = w.heap.size
  | [], _, _, _ => rfl
  | v :: vs, b, o, w => by
    show ((w.setCell ⟨b, o, none⟩ v).setCells b (o + 1) vs).heap.size = _
    rw [setCells_size vs b (o + 1)]; simp
theorem setCells_same : ∀ (vs : List Value) (b o : Nat) (w : World), (w.setCells b o vs).os = w.os ∧ (w.setCells b o vs).tape = w.tape ∧ (w.setCells b o vs).output = w.output
  | [], _, _, _ => ⟨rfl, rfl, rfl⟩
  | v :: vs, b, o, w => setCells_same vs b (o + 1) (w.setCell ⟨b, o, none⟩ v)
theorem AdvW.setCells (w : World) {O : Nat → Prop} {b : Nat} (hO : O b) (o : Nat) (vs : List Value) : AdvW w O (w.setCells b o vs) O := by
  obtain ⟨h1, h2, h3⟩ := setCells_same vs b o w
  exact ⟨h1, h2, h3, by rw [setCells_size]; exact Nat.le_refl _, fun k _ hk => setCells_other vs b o w k (fun e => hk (e ▸ hO)), fun _ h => h, fun _ h => .inl h⟩

/-- A row of the call's own behind a store of some cells: the row's new cells are told as one list. -/
theorem Heap.store {h : List ARow} (H : Heap ρ w S O h) {id g : Nat} {p : Pl} {r : ARow} (hρ : ρ id = some (g, some p)) (hrow : h[id]? = some r) (off : Nat) (cs : List AV) (vs : List Value) (es' : List (List AV)) (fl : Bool)
    (hle : off + vs.length ≤ r.es.length * r.k) (hlen : ∀ g ∈ es', g.length = r.k) (hl : es'.length = r.es.length) (hes : es'.flatten = patch off cs r.es.flatten)
    (hf : fl = true → r.flat = true) (hq : CellsP (CellQ ρ w S O fl) cs vs) :
    Heap ρ (w.setCells p.b (p.base + off) vs) S O (h.set id { r with es := es', flat := fl }) ∧ AdvW w O (w.setCells p.b (p.base + off) vs) O ∧ w.there p.b (p.base + off) vs.length := by
  obtain ⟨hg, his⟩ := H.at hρ hrow
  have R : RowRep ρ w S O r p := his
  obtain ⟨arr, ty, lo, hi, us, h1, h2, h3, h4, h5⟩ := R.flat
  have hA := AdvW.setCells w R.own (p.base + off) vs
  have hfl := flatten_len R.len
  have hul : us.length = r.es.length * r.k := by rw [← h5.1, hfl]
  have hlim : p.base + r.es.length * r.k ≤ arr.size := by
    have := Nat.mul_le_mul_right r.k R.lim
    rw [R.k] at h2; omega
  have hblk := setCells_block vs p.b (p.base + off) w arr ty (lo, hi) h1 (by omega)
  refine ⟨H.step (.refl ρ) hA (fun b hb => ?_) (fun id' g' pl' hid => ?_) H.inj, hA, fun j hj => ?_⟩
  · rw [setCells_size]; exact H.bd b (.inr hb)
  · by_cases hii : id' = id
    · subst hii
      rw [hρ] at hid
      cases hid
      refine .inr ⟨{ r with es := es', flat := fl }, by rw [List.getElem?_set_self (List.getElem?_eq_some_iff.1 hrow).1], hg, ?_⟩
      have e5 : CellsP (CellQ ρ (w.setCells p.b (p.base + off) vs) S O fl) (patch off cs r.es.flatten) (patchV off vs us) := ((h5.weak hf).patch hq off).adv (.refl ρ) hA
      rw [← hes] at e5
      refine RowRep.ofFlat (vs := patchV off vs us) R.k (by simp only; rw [hl]; exact R.lim) R.own hlen hblk (by simp [length_patchV (vs := arr.toList) (us := vs) (off := p.base + off) (by simp; omega)]; exact h2)
        ⟨h3.1, fun j hj => h3.2 j (by simpa [length_patchV (vs := arr.toList) (us := vs) (off := p.base + off) (by simp; omega)] using hj)⟩ (fun i hi => ?_) e5
      rw [List.getElem?_toArray, getElem?_patchV (by simp; omega), getElem?_patchV (by omega)]
      rw [length_patchV (by omega)] at hi
      by_cases hc : off ≤ i ∧ i < off + vs.length
      · rw [if_pos (by omega), if_pos hc, show p.base + i - (p.base + off) = i - off from by omega]
      · rw [if_neg (by omega), if_neg hc]
        simpa using h4 i hi
    · refine .inl ⟨hid, by rw [List.getElem?_set_ne (Ne.symm hii)], fun p' hp' => setCells_other vs _ _ w _ (fun e => hii ?_)⟩
      subst hp'
      exact H.inj id' id g' g p' p hid hρ e
  · have hlt : p.base + off + j < arr.size := by omega
    refine ⟨by rw [cell_of_row w p.b _ arr ty _ h1]; simp [hlt], ?_⟩
    have := h3.2 _ hlt
    simp only [World.frozen?, h1]
    simpa using this
end
end Go.Proofs.Ytfnonledcniojaa
