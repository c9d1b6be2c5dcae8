/- Small lemmas on what the small machine's values stand for. Conditions: none. -/
import Derived.Test.YtfnonledcniojaaAmF
namespace Go.Proofs.Ytfnonledcniojaa
open Go Go.RowKit
section
variable {ρ : Rho} {w : World} {S O : Nat → Prop} {X : Nat → Prop}

theorem rv_int {k : IntKind} {n : Int} {x : Value} (h : RepV ρ w S O (.int k n) x) : x = .int k n := by cases h with | s h => cases h; rfl
theorem rv_bool {b : Bool} {x : Value} (h : RepV ρ w S O (.bool b) x) : x = .bool b := by cases h with | s h => cases h; rfl
theorem rv_str {s : ByteArray} {x : Value} (h : RepV ρ w S O (.str s) x) : x = .string s := by cases h with | s h => cases h; rfl
theorem rv_nilfn {x : Value} (h : RepV ρ w S O .nilfn x) : x = .nilFunc := by cases h with | s h => cases h; rfl
theorem rv_nilptr {x : Value} (h : RepV ρ w S O .nilptr x) : x = .pointer none := by cases h with | s h => cases h; rfl
theorem rv_agg {cs : List AV} {x : Value} (h : RepV ρ w S O (.agg cs) x) : ∃ vs : List Value, x = .agg vs.toArray ∧ cs.length = vs.length ∧ (∀ v ∈ vs, v.oneCell' = true) ∧
    ∀ (i : Nat) c v, cs[i]? = some c → vs[i]? = some v → RepV ρ w S O c v := by
  cases h with
  | s h => cases h with | agg _ vs h1 h2 h3 => exact ⟨vs, rfl, h1, h2, fun i c v hc hv => .s (h3 i c v hc hv)⟩
  | agg _ vs h1 h2 h3 => exact ⟨vs, rfl, h1, h2, h3⟩
theorem rv_tup {cs : List AV} {x : Value} (h : RepV ρ w S O (.tup cs) x) : ∃ vs : List Value, x = .tuple vs.toArray ∧ cs.length = vs.length ∧
    ∀ (i : Nat) c v, cs[i]? = some c → vs[i]? = some v → RepV ρ w S O c v := by
  cases h with
  | s h => cases h with | tup _ vs h1 h3 => exact ⟨vs, rfl, h1, fun i c v hc hv => .s (h3 i c v hc hv)⟩
  | tup _ vs h1 h3 => exact ⟨vs, rfl, h1, h3⟩
theorem rv_fn {f : Fn} {as bs : List AV} {x : Value} (h : RepV ρ w S O (.fn f as bs) x) : ∃ xs ys : List Value, x = .func f xs.toArray ys.toArray ∧ as.length = xs.length ∧ bs.length = ys.length ∧
    (∀ (i : Nat) c v, as[i]? = some c → xs[i]? = some v → RepV ρ w S O c v) ∧ (∀ (i : Nat) c v, bs[i]? = some c → ys[i]? = some v → RepV ρ w S O c v) := by
  cases h with
  | s h => cases h with | fn _ _ _ xs ys h1 h2 h3 h4 => exact ⟨xs, ys, rfl, h1, h2, fun i c v hc hv => .s (h3 i c v hc hv), fun i c v hc hv => .s (h4 i c v hc hv)⟩
  | fn _ _ _ xs ys h1 h2 h3 h4 => exact ⟨xs, ys, rfl, h1, h2, h3, h4⟩
theorem rv_own {id g s l c : Nat} {x : Value} (h : RepV ρ w S O (.own id g s l c) x) : ∃ g' pl a cap, x = .slice a l cap ∧ ρ id = some (g', pl) ∧ g ≤ g' ∧ l ≤ cap ∧ c ≤ cap ∧ (0 < cap → a.isSome = true) ∧
    (g = g' → cap = 0 ∨ ∃ p, pl = some p ∧ a = some ⟨p.b, p.base + s * p.k, none⟩ ∧ s + cap ≤ p.lim) := by
  cases h with
  | s h => cases h
  | own _ _ g' pl _ _ _ a cap h1 h2 h3 hc h4 h5 => exact ⟨g', pl, a, cap, rfl, h1, h2, h3, hc, h4, h5⟩
theorem rv_ptr {id g e off : Nat} {x : Value} (h : RepV ρ w S O (.ptr id g e off) x) : ∃ g' pl a, x = .pointer (some a) ∧ ρ id = some (g', pl) ∧ g ≤ g' ∧ (g = g' → ∃ p, pl = some p ∧ a = ⟨p.b, p.base + e * p.k + off, none⟩) := by
  cases h with
  | s h => cases h
  | ptr _ _ g' pl _ _ a h1 h2 h3 => exact ⟨g', pl, a, rfl, h1, h2, h3⟩
theorem rv_dptr {cs : List AV} {x : Value} (h : RepV ρ w S O (.dptr cs) x) : ∃ (b off : Nat) (val : Nat → Value), x = .pointer (some ⟨b, off, none⟩) ∧ ¬ O b ∧ b < w.heap.size ∧
    (∀ j, j < cs.length → w.cell? ⟨b, off + j, none⟩ = some (val j) ∧ (val j).oneCell' = true) ∧ (∀ (j : Nat) c, cs[j]? = some c → RepS w (fun b => S b ∨ O b) c (val j)) := by
  cases h with
  | s h => cases h
  | dptr _ b off val h1 h2 h3 h4 => exact ⟨b, off, val, rfl, h1, h2, h3, h4⟩
theorem rv_data {bo : Bool} {k : Nat} {es : List (List AV)} {full : Bool} {x : Value} (h : RepV ρ w S O (.data bo k es full) x) : ∃ a cap, x = .slice a es.length cap ∧ es.length ≤ cap ∧ (full = true → cap = es.length) ∧ (∀ g ∈ es, g.length = k) ∧
    (es = [] ∨ ∃ (b off : Nat) (val : Nat → Nat → Value), a = some ⟨b, off, none⟩ ∧ ¬ O b ∧ (bo = false → ¬ S b) ∧ b < w.heap.size ∧
      (∀ (e j : Nat), e < es.length → j < k → w.cell? ⟨b, off + (e * k + j), none⟩ = some (val e j) ∧ (val e j).oneCell' = true) ∧
      (∀ (e j : Nat) g c, es[e]? = some g → g[j]? = some c → RepS w (fun b => S b ∨ O b) c (val e j))) := by
  cases h with
  | s h => cases h with
    | data0 _ _ a cap h => exact ⟨a, cap, rfl, by simp, by simpa using h, by simp, .inl rfl⟩
    | data _ _ _ b off cap val h1 h2 h3 h4 h5 h6 h7 => exact ⟨_, cap, rfl, h1, h2, h3, .inr ⟨b, off, val, rfl, fun h => h4 (.inr h), fun _ h => h4 (.inl h), h5, h6, h7⟩⟩
  | bor0 _ _ a cap h => exact ⟨a, cap, rfl, by simp, by simpa using h, by simp, .inl rfl⟩
  | bor _ _ _ b off cap val h1 h2 h3 h4 h5 h6 h7 => exact ⟨_, cap, rfl, h1, h2, h3, .inr ⟨b, off, val, rfl, h4, by simp, h5, h6, h7⟩⟩
/-- The other way. -/
theorem rv_mk_data {bo : Bool} {k : Nat} {es : List (List AV)} {full : Bool} {a : Option Addr} {cap : Nat} (h1 : es.length ≤ cap) (h2 : full = true → cap = es.length) (h3 : ∀ g ∈ es, g.length = k)
    (h4 : es = [] ∨ ∃ (b off : Nat) (val : Nat → Nat → Value), a = some ⟨b, off, none⟩ ∧ ¬ O b ∧ (bo = false → ¬ S b) ∧ b < w.heap.size ∧
      (∀ (e j : Nat), e < es.length → j < k → w.cell? ⟨b, off + (e * k + j), none⟩ = some (val e j) ∧ (val e j).oneCell' = true) ∧
      (∀ (e j : Nat) g c, es[e]? = some g → g[j]? = some c → RepS w (fun b => S b ∨ O b) c (val e j))) : RepV ρ w S O (.data bo k es full) (.slice a es.length cap) := by
  rcases h4 with rfl | ⟨b, off, val, rfl, h5, h6, h7, h8, h9⟩
  · cases bo with
    | true => exact .bor0 k full a cap (by simpa using h2)
    | false => exact .s (.data0 k full a cap (by simpa using h2))
  · cases bo with
    | true => exact .bor k es full b off cap val h1 h2 h3 h5 h7 h8 h9
    | false => exact .s (.data k es full b off cap val h1 h2 h3 (fun h => h.elim (h6 rfl) h5) h7 h8 h9)

theorem stableL_at {cs : List AV} (h : AV.stableL cs = true) : ∀ (i : Nat) c, cs[i]? = some c → c.stable = true := by
  induction cs with
  | nil => intro i c hc; simp at hc
  | cons v vs ih =>
    simp only [AV.stableL, Bool.and_eq_true] at h
    intro i c hc
    cases i with
    | zero => simp at hc; subst hc; exact h.1
    | succ i => exact ih h.2 i c (by simpa using hc)
theorem rv_stable {v : AV} {x : Value} (h : RepV ρ w S O v x) : v.stable = true → RepS w (fun b => S b ∨ O b) v x := by
  induction h with
  | s h => intro _; exact h
  | agg cs vs h1 h2 _ ih => intro hs; exact .agg cs vs h1 h2 fun i c v hc hv => ih i c v hc hv (stableL_at (by simpa [AV.stable] using hs) i c hc)
  | tup cs vs h1 _ ih => intro hs; exact .tup cs vs h1 fun i c v hc hv => ih i c v hc hv (stableL_at (by simpa [AV.stable] using hs) i c hc)
  | fn f as bs xs ys h1 h2 _ _ i1 i2 =>
    intro hs
    simp only [AV.stable, Bool.and_eq_true] at hs
    exact .fn f as bs xs ys h1 h2 (fun i c v hc hv => i1 i c v hc hv (stableL_at hs.1 i c hc)) (fun i c v hc hv => i2 i c v hc hv (stableL_at hs.2 i c hc))
  | bor0 => intro hs; simp [AV.stable] at hs
  | bor => intro hs; simp [AV.stable] at hs
  | dptr => intro hs; simp [AV.stable] at hs
  | own => intro hs; simp [AV.stable] at hs
  | ptr => intro hs; simp [AV.stable] at hs
  | unk => intro hs; simp [AV.stable] at hs

theorem rv_cells {v : AV} {x : Value} {cs : List AV} (h : RepV ρ w S O v x) (hc : v.cells = some cs) : ∃ vs : List Value, x.cells = vs.toArray ∧ cs.length = vs.length ∧ (∀ v ∈ vs, v.oneCell' = true) ∧
    ∀ (i : Nat) c v, cs[i]? = some c → vs[i]? = some v → RepV ρ w S O c v := by
  have one : ∀ {u : AV} {y : Value}, RepV ρ w S O u y → y.oneCell' = true → y.cells = #[y] → ∃ vs : List Value, y.cells = vs.toArray ∧ [u].length = vs.length ∧ (∀ v ∈ vs, v.oneCell' = true) ∧
      ∀ (i : Nat) c v, [u][i]? = some c → vs[i]? = some v → RepV ρ w S O c v := fun {u y} hr h1 h2 => ⟨[y], by rw [h2], rfl, by simpa using h1, fun i c v hc hv => by
    cases i with
    | zero => simp at hc hv; subst hc hv; exact hr
    | succ i => simp at hc⟩
  cases v with
  | agg as =>
    obtain ⟨vs, rfl, h1, h2, h3⟩ := rv_agg h
    cases hc
    exact ⟨vs, rfl, h1, h2, h3⟩
  | tup as => cases hc
  | unk => cases hc
  | int k n => cases hc; obtain rfl := rv_int h; exact one h rfl rfl
  | bool b => cases hc; obtain rfl := rv_bool h; exact one h rfl rfl
  | str s => cases hc; obtain rfl := rv_str h; exact one h rfl rfl
  | nilfn => cases hc; obtain rfl := rv_nilfn h; exact one h rfl rfl
  | nilptr => cases hc; obtain rfl := rv_nilptr h; exact one h rfl rfl
  | data bo k es f => cases hc; obtain ⟨a, cap, rfl, _⟩ := rv_data h; exact one h rfl rfl
  | dptr ds => cases hc; obtain ⟨b, off, val, rfl, _⟩ := rv_dptr h; exact one h rfl rfl
  | own id g s l c => cases hc; obtain ⟨g', pl, a, cap, rfl, _⟩ := rv_own h; exact one h rfl rfl
  | ptr id g e o => cases hc; obtain ⟨g', pl, a, rfl, _⟩ := rv_ptr h; exact one h rfl rfl
  | fn f as bs => cases hc; obtain ⟨xs, ys, rfl, _⟩ := rv_fn h; exact one h rfl rfl

theorem const_rep {v : Value} {c : AV} (h : chkConst v c = true) : RepS w X c v ∧ v.oneCell' = true := by
  unfold chkConst at h
  split at h
  · simp only [Bool.and_eq_true, beq_iff_eq] at h; obtain ⟨rfl, rfl⟩ := h; exact ⟨.int _ _, rfl⟩
  · simp only [beq_iff_eq] at h; subst h; exact ⟨.bool _, rfl⟩
  · rename_i s t
    simp only [beq_iff_eq] at h
    obtain rfl : s = t := by cases s; cases t; simp_all
    exact ⟨.str _, rfl⟩
  · exact ⟨.nilfn, rfl⟩
  · exact ⟨.nilptr, rfl⟩
  · exact ⟨.data0 _ _ none 0 (fun _ => rfl), rfl⟩
  · cases h
theorem consts_rep : ∀ {vs : List Value} {cs : List AV}, chkConsts vs cs = true → cs.length = vs.length ∧ (∀ v ∈ vs, v.oneCell' = true) ∧ ∀ (i : Nat) c v, cs[i]? = some c → vs[i]? = some v → RepS w X c v
  | [], [], _ => ⟨rfl, by simp, fun i c v hc => by simp at hc⟩
  | v :: vs, c :: cs, h => by
    simp only [chkConsts, Bool.and_eq_true] at h
    obtain ⟨h1, h2, h3⟩ := consts_rep h.2
    refine ⟨by simp [h1], ?_, ?_⟩
    · intro u hu
      rcases List.mem_cons.1 hu with rfl | hu
      · exact (const_rep (w := w) (X := X) h.1).2
      · exact h2 u hu
    · intro i c' v' hc hv
      cases i with
      | zero => simp at hc hv; subst hc hv; exact (const_rep h.1).1
      | succ i => exact h3 i c' v' (by simpa using hc) (by simpa using hv)
  | [], _ :: _, h => by cases h
  | _ :: _, [], h => by cases h

/-! ### Heaps -/
variable {h : List ARow}
theorem Heap.lt (H : Heap ρ w S O h) {id g : Nat} {pl : Option Pl} (e : ρ id = some (g, pl)) : id < h.length := by
  obtain ⟨r, hr, _⟩ := H.row id g pl e
  exact (List.getElem?_eq_some_iff.1 hr).1
theorem Heap.none_ge (H : Heap ρ w S O h) {id : Nat} (hi : h.length ≤ id) : ρ id = none := by
  cases e : ρ id with
  | none => rfl
  | some x => have := H.lt (g := x.1) (pl := x.2) e; omega
theorem Heap.at (H : Heap ρ w S O h) {id g : Nat} {pl : Option Pl} (e : ρ id = some (g, pl)) {r : ARow} (hr : h[id]? = some r) : r.gen = g ∧ RowIs ρ w S O r pl := by
  obtain ⟨r', hr', h1, h2⟩ := H.row id g pl e
  obtain rfl := Option.some.inj (hr.symm.trans hr')
  exact ⟨h1, h2⟩
theorem RowRep.adv {ρ' : Rho} {w' : World} {O' : Nat → Prop} {r : ARow} {p : Pl} (R : RowRep ρ w S O r p) (e : Ext ρ ρ') (a : AdvW w O w' O') (hb : w'.heap[p.b]? = w.heap[p.b]?) : RowRep ρ' w' S O' r p := by
  obtain ⟨arr, ty, lo, hi, h1, h2, h3, h4⟩ := R.block
  refine ⟨R.k, R.lim, a.grow _ R.own, R.len, arr, ty, lo, hi, hb.trans h1, h2, h3, fun e0 j g c hg hc => ?_⟩
  obtain ⟨x, h5, h6, h7, h8⟩ := h4 e0 j g c hg hc
  exact ⟨x, h5, h6, h7.adv e a, fun hf => (h8 hf).adv a⟩
theorem RowRep.lt {r : ARow} {p : Pl} (R : RowRep ρ w S O r p) : p.b < w.heap.size := by
  obtain ⟨arr, ty, lo, hi, h1, _⟩ := R.block
  exact (Array.getElem?_eq_some_iff.1 h1).1

/-- A heap behind a step: each row is as it was, or as told. -/
theorem Heap.step {ρ' : Rho} {w' : World} {O' : Nat → Prop} {h' : List ARow} (H : Heap ρ w S O h) (e : Ext ρ ρ') (a : AdvW w O w' O')
    (bd : ∀ b, O' b → b < w'.heap.size)
    (rows : ∀ (id g : Nat) pl, ρ' id = some (g, pl) → (ρ id = some (g, pl) ∧ h'[id]? = h[id]? ∧ ∀ p, pl = some p → w'.heap[p.b]? = w.heap[p.b]?) ∨ ∃ r, h'[id]? = some r ∧ r.gen = g ∧ RowIs ρ' w' S O' r pl)
    (inj : ∀ (id id' g g' : Nat) p p', ρ' id = some (g, some p) → ρ' id' = some (g', some p') → p.b = p'.b → id = id') : Heap ρ' w' S O' h' := by
  refine ⟨fun id g pl hid => ?_, inj, fun b hb => ?_⟩
  · rcases rows id g pl hid with ⟨h1, h2, h3⟩ | h1
    · obtain ⟨r, hr, hg, hR⟩ := H.row id g pl h1
      refine ⟨r, h2.trans hr, hg, ?_⟩
      cases pl with
      | none => exact hR
      | some p => exact RowRep.adv hR e a (h3 p rfl)
    · exact h1
  · rcases hb with hb | hb
    · exact Nat.lt_of_lt_of_le (H.bd b (.inl hb)) a.size
    · exact bd b hb

def upd (ρ : Rho) (id : Nat) (x : Nat × Option Pl) : Rho := fun i => if i = id then some x else ρ i
theorem upd_same (ρ : Rho) (id : Nat) (x : Nat × Option Pl) : upd ρ id x id = some x := by simp [upd]
theorem upd_ne (ρ : Rho) {id i : Nat} (x : Nat × Option Pl) (h : i ≠ id) : upd ρ id x i = ρ i := by simp [upd, h]
theorem ext_upd (ρ : Rho) {id : Nat} (x : Nat × Option Pl) (h : ρ id = none) : Ext ρ (upd ρ id x) := fun i g pl hi => ⟨g, pl, by
  rw [upd_ne ρ x (fun e => by rw [e, h] at hi; cases hi)]; exact hi, Nat.le_refl _, fun _ => rfl⟩
theorem upd_mono (ρ : Rho) {id n : Nat} (x : Nat × Option Pl) (hn : n ≤ id) : ∀ i, i < n → ρ i = none → upd ρ id x i = none := fun i hi h => by rw [upd_ne ρ x (by omega)]; exact h

theorem AdvW.alloc (w : World) (O : Nat → Prop) (ob : Obj) : AdvW w O (w.alloc ob) (fun b => O b ∨ b = w.heap.size) :=
  ⟨rfl, rfl, rfl, by simp, fun b hb _ => Below.heap_alloc w ob b hb, fun _ h => .inl h, fun b h => h.imp id (fun h => by omega)⟩
theorem AdvW.alloc' (w : World) (O : Nat → Prop) (ob : Obj) : AdvW w O (w.alloc ob) O :=
  ⟨rfl, rfl, rfl, by simp, fun b hb _ => Below.heap_alloc w ob b hb, fun _ h => h, fun b h => .inl h⟩

/-- A new row in a new block. -/
theorem Heap.alloc (H : Heap ρ w S O h) (arr : Array Value) (ty : TypeId) (r : ARow) (lim : Nat) (hl : r.es.length ≤ lim) (hs : lim * r.k ≤ arr.size) (hlen : ∀ g ∈ r.es, g.length = r.k)
    (hc : ∀ (e j : Nat) g c, r.es[e]? = some g → g[j]? = some c → ∃ x, arr[e * r.k + j]? = some x ∧ x.oneCell' = true ∧ RepV ρ w S O c x ∧ (r.flat = true → RepS w (fun b => S b ∨ O b) c x)) :
    Heap (upd ρ h.length (r.gen, some ⟨w.heap.size, 0, r.k, lim⟩)) (w.alloc (.cells arr ty)) S (fun b => O b ∨ b = w.heap.size) (h ++ [r]) := by
  have he : Ext ρ (upd ρ h.length (r.gen, some ⟨w.heap.size, 0, r.k, lim⟩)) := ext_upd ρ _ (H.none_ge (Nat.le_refl _))
  have ha := AdvW.alloc w O (.cells arr ty)
  refine H.step he ha (fun b hb => ?_) (fun id g pl hid => ?_) (fun id id' g g' p p' h1 h2 hb => ?_)
  · rcases hb with hb | rfl
    · have := H.bd b (.inr hb); simp; omega
    · simp
  · by_cases hi : id = h.length
    · subst hi
      rw [upd_same] at hid
      cases hid
      refine .inr ⟨r, by simp, rfl, rfl, hl, .inr rfl, hlen, arr, ty, 0, 0, heap_alloc_new _ _, by simpa using hs, ⟨Nat.le_refl _, fun j _ => by omega⟩, fun e j g c hg hcc => ?_⟩
      obtain ⟨x, h1, h2, h3, h4⟩ := hc e j g c hg hcc
      exact ⟨x, by simpa using h1, h2, h3.adv he ha, fun hf => (h4 hf).adv ha⟩
    · rw [upd_ne ρ _ hi] at hid
      have hlt := H.lt hid
      refine .inl ⟨hid, by rw [List.getElem?_append_left hlt], fun p hp => ?_⟩
      subst hp
      obtain ⟨r', _, _, hR⟩ := H.row id g _ hid
      exact Below.heap_alloc w _ _ (RowRep.lt hR)
  · by_cases hi : id = h.length
    · by_cases hi' : id' = h.length
      · omega
      · subst hi
        rw [upd_same] at h1
        rw [upd_ne ρ _ hi'] at h2
        cases h1
        obtain ⟨r', _, _, hR⟩ := H.row id' g' _ h2
        have := RowRep.lt hR
        simp at hb; omega
    · rw [upd_ne ρ _ hi] at h1
      by_cases hi' : id' = h.length
      · subst hi'
        rw [upd_same] at h2
        cases h2
        obtain ⟨r', _, _, hR⟩ := H.row id g _ h1
        have := RowRep.lt hR
        simp at hb; omega
      · rw [upd_ne ρ _ hi'] at h2
        exact H.inj id id' g g' p p' h1 h2 hb
/-- A new row without a block. -/
theorem Heap.virtual (H : Heap ρ w S O h) (r : ARow) (hr : r.es = []) : Heap (upd ρ h.length (r.gen, none)) w S O (h ++ [r]) := by
  refine H.step (ext_upd ρ _ (H.none_ge (Nat.le_refl _))) (.refl w O) (fun b hb => H.bd b (.inr hb)) (fun id g pl hid => ?_) (fun id id' g g' p p' h1 h2 hb => ?_)
  · by_cases hi : id = h.length
    · subst hi
      rw [upd_same] at hid
      cases hid
      exact .inr ⟨r, by simp, rfl, hr⟩
    · rw [upd_ne ρ _ hi] at hid
      exact .inl ⟨hid, by rw [List.getElem?_append_left (H.lt hid)], fun _ _ => rfl⟩
  · by_cases hi : id = h.length
    · subst hi; rw [upd_same] at h1; cases h1
    · by_cases hi' : id' = h.length
      · subst hi'; rw [upd_same] at h2; cases h2
      · rw [upd_ne ρ _ hi] at h1; rw [upd_ne ρ _ hi'] at h2; exact H.inj id id' g g' p p' h1 h2 hb
/-- The places know how wide an element is. -/
def KInv (ρ : Rho) (h : List ARow) : Prop := ∀ (id g : Nat) p r, ρ id = some (g, some p) → h[id]? = some r → p.k = r.k
theorem Heap.kinv (H : Heap ρ w S O h) : KInv ρ h := fun id g p r hid hr => by
  obtain ⟨_, hR⟩ := H.at hid hr
  exact RowRep.k (show RowRep ρ w S O r p from hR)
end
end Go.Proofs.Ytfnonledcniojaa
