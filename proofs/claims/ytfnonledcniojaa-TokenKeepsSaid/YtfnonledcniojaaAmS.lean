/- Rows that are numbered anew. Conditions: none. -/
import Derived.Test.YtfnonledcniojaaAmQ
namespace Go.Proofs.Ytfnonledcniojaa
open Go Go.RowKit
section
variable {ρ ρ2 : Rho} {w : World} {S O S2 O2 : Nat → Prop} {X : Nat → Prop} {h : List ARow} {low off : Nat} {order : List Nat}

theorem renL_map (h : List ARow) (low off : Nat) (order : List Nat) : ∀ vs : List AV, AV.renL h low off order vs = vs.map (AV.ren h low off order)
  | [] => rfl
  | v :: vs => by rw [AV.renL, renL_map h low off order vs]; rfl
theorem cleanL_at : ∀ {vs : List AV}, AV.cleanL vs = true → ∀ v ∈ vs, v.clean = true
  | v :: vs, hc, u, hu => by
    simp only [AV.cleanL, Bool.and_eq_true] at hc
    rcases List.mem_cons.1 hu with rfl | hu
    · exact hc.1
    · exact cleanL_at hc.2 u hu
theorem renL_same {vs : List AV} {xs : List Value} (hl : vs.length = xs.length) (ih : ∀ (i : Nat) c v, vs[i]? = some c → xs[i]? = some v → AV.ren h low off order c = c) : AV.renL h low off order vs = vs := by
  rw [renL_map]
  apply List.ext_getElem?
  intro i
  rw [List.getElem?_map]
  cases hc : vs[i]? with
  | none => rfl
  | some c =>
    have hlt : i < xs.length := by have := (List.getElem?_eq_some_iff.1 hc).1; omega
    rw [Option.map_some, ih i c _ hc (List.getElem?_eq_getElem hlt)]
theorem ren_stable {v : AV} {x : Value} (hs : RepS w X v x) : AV.ren h low off order v = v := by
  induction hs with
  | agg cs vs hl _ _ ih => rw [AV.ren, renL_same hl ih]
  | tup cs vs hl _ ih => rw [AV.ren, renL_same hl ih]
  | fn f as bs xs ys h1 h2 _ _ i1 i2 => rw [AV.ren, renL_same h1 i1, renL_same h2 i2]
  | _ => simp [AV.ren]
/-- The new numbers tell the old places. -/
structure RenMap (ρ ρ2 : Rho) (low off : Nat) (order : List Nat) : Prop where
  low : ∀ id, id < low → ρ2 id = ρ id
  ord : ∀ (j id g : Nat) pl, order[j]? = some id → ρ id = some (g, pl) → ρ2 (off + j) = some (0, pl)
theorem idxOf?_get {l : List Nat} {a j : Nat} (hj : l.idxOf? a = some j) : l[j]? = some a := by
  induction l generalizing j with
  | nil => simp at hj
  | cons b l ih =>
    rw [List.idxOf?_cons] at hj
    split at hj
    · rename_i hb
      cases hj
      simpa using (beq_iff_eq.1 hb)
    · obtain ⟨k, hk, rfl⟩ := opt_map_some.1 hj
      simpa using ih hk
theorem ren_rep (H : Heap ρ w S O h) (M : RenMap ρ ρ2 low off order) {v : AV} {x : Value} (hv : RepV ρ w S O v x) : RepV ρ2 w S O (v.ren h low off order) x := by
  have lst : ∀ {vs : List AV} {xs : List Value}, vs.length = xs.length → (∀ (i : Nat) c v, vs[i]? = some c → xs[i]? = some v → RepV ρ2 w S O (AV.ren h low off order c) v) →
      (AV.renL h low off order vs).length = xs.length ∧ ∀ (i : Nat) c v, (AV.renL h low off order vs)[i]? = some c → xs[i]? = some v → RepV ρ2 w S O c v := fun {vs xs} hl ih => by
    rw [renL_map]
    refine ⟨by simp [hl], fun i c v hc hv => ?_⟩
    rw [List.getElem?_map] at hc
    obtain ⟨c0, hc0, rfl⟩ := opt_map_some.1 hc
    exact ih i c0 v hc0 hv
  induction hv with
  | s hs => rw [ren_stable hs]; exact .s hs
  | agg cs vs hl h1 _ ih => rw [AV.ren]; exact .agg _ vs (lst hl ih).1 h1 (lst hl ih).2
  | tup cs vs hl _ ih => rw [AV.ren]; exact .tup _ vs (lst hl ih).1 (lst hl ih).2
  | fn f as bs xs ys h1 h2 _ _ i1 i2 => rw [AV.ren]; exact .fn f _ _ xs ys (lst h1 i1).1 (lst h2 i2).1 (lst h1 i1).2 (lst h2 i2).2
  | bor0 k full a cap hf => simp only [AV.ren]; exact .bor0 k full a cap hf
  | bor k es full b off cap val h1 h2 h3 hO hb hc hr => simp only [AV.ren]; exact .bor k es full b off cap val h1 h2 h3 hO hb hc hr
  | dptr cs b off val hO hb hc hr => simp only [AV.ren]; exact .dptr cs b off val hO hb hc hr
  | own id g g' pl s l c ad cap h1 h2 h3 hc h4 h5 =>
    simp only [AV.ren]
    split
    · rename_i hlt; exact .own id g g' pl s l c ad cap ((M.low id hlt).trans h1) h2 h3 hc h4 h5
    · split
      · rename_i r j hr hj
        split
        · rename_i hg
          obtain ⟨hg', _⟩ := H.at h1 hr
          exact .own _ 0 0 pl s l c ad cap (M.ord j id g' pl (idxOf?_get hj) h1) (Nat.le_refl _) h3 hc h4 (fun _ => h5 (by omega))
        · exact .unk _
      · exact .unk _
  | ptr id g g' pl e0 o ad h1 h2 h3 =>
    simp only [AV.ren]
    split
    · rename_i hlt; exact .ptr id g g' pl e0 o ad ((M.low id hlt).trans h1) h2 h3
    · split
      · rename_i r j hr hj
        split
        · rename_i hg
          obtain ⟨hg', _⟩ := H.at h1 hr
          exact .ptr _ 0 0 pl e0 o ad (M.ord j id g' pl (idxOf?_get hj) h1) (Nat.le_refl _) (fun _ => h3 (by omega))
        · exact .unk _
      · exact .unk _
  | unk x => simp only [AV.ren]; exact .unk x
/-- What was not lent may be kept by another. -/
theorem clean_rep {v : AV} {x : Value} (hX : ∀ b, S2 b ∨ O2 b → S b ∨ O b) (hv : RepV ρ w S O v x) : v.clean = true → RepV ρ w S2 O2 v x := by
  have lst : ∀ {vs : List AV} {xs : List Value}, AV.cleanL vs = true → (∀ (i : Nat) c v, vs[i]? = some c → xs[i]? = some v → c.clean = true → RepV ρ w S2 O2 c v) →
      ∀ (i : Nat) c v, vs[i]? = some c → xs[i]? = some v → RepV ρ w S2 O2 c v := fun {vs xs} hc ih i c v h1 h2 => ih i c v h1 h2 (cleanL_at hc c (List.mem_of_getElem? h1))
  induction hv with
  | s hs => intro _; exact .s (hs.mono hX)
  | agg cs vs hl h1 _ ih => intro hc; exact .agg _ vs hl h1 (lst (by simpa [AV.clean] using hc) ih)
  | tup cs vs hl _ ih => intro hc; exact .tup _ vs hl (lst (by simpa [AV.clean] using hc) ih)
  | fn f as bs xs ys h1 h2 _ _ i1 i2 =>
    intro hc
    simp only [AV.clean, Bool.and_eq_true] at hc
    exact .fn f _ _ xs ys h1 h2 (lst hc.1 i1) (lst hc.2 i2)
  | bor0 => intro hc; simp [AV.clean] at hc
  | bor => intro hc; simp [AV.clean] at hc
  | dptr => intro hc; simp [AV.clean] at hc
  | own id g g' pl s l c ad cap h1 h2 h3 hc h4 h5 => intro _; exact .own id g g' pl s l c ad cap h1 h2 h3 hc h4 h5
  | ptr id g g' pl e0 o ad h1 h2 h3 => intro _; exact .ptr id g g' pl e0 o ad h1 h2 h3
  | unk x => intro _; exact .unk x
mutual
theorem ren_clean : ∀ {v : AV}, v.clean = true → (v.ren h low off order).clean = true
  | .own id g s l c, _ => by
    rw [AV.ren]
    split
    · rfl
    · split
      · split <;> rfl
      · rfl
  | .ptr id g e o, _ => by
    rw [AV.ren]
    split
    · rfl
    · split
      · split <;> rfl
      · rfl
  | .agg cs, hc => by rw [AV.ren]; exact renL_clean (vs := cs) (by simpa [AV.clean] using hc)
  | .tup cs, hc => by rw [AV.ren]; exact renL_clean (vs := cs) (by simpa [AV.clean] using hc)
  | .fn f a b, hc => by
    simp only [AV.clean, Bool.and_eq_true] at hc
    rw [AV.ren]
    simp only [AV.clean, Bool.and_eq_true]
    exact ⟨renL_clean (vs := a) hc.1, renL_clean (vs := b) hc.2⟩
  | .int _ _, _ => rfl
  | .bool _, _ => rfl
  | .str _, _ => rfl
  | .data _ _ _ _, hc => hc
  | .dptr _, hc => hc
  | .nilfn, _ => rfl
  | .nilptr, _ => rfl
  | .unk, _ => rfl
theorem renL_clean : ∀ {vs : List AV}, AV.cleanL vs = true → AV.cleanL (AV.renL h low off order vs) = true
  | [], _ => rfl
  | v :: vs, hc => by
    simp only [AV.cleanL, Bool.and_eq_true] at hc
    rw [AV.renL]
    simp only [AV.cleanL, Bool.and_eq_true]
    exact ⟨ren_clean hc.1, renL_clean hc.2⟩
end
/-- Both. -/
theorem ren_rep' (H : Heap ρ w S O h) (M : RenMap ρ ρ2 low off order) (hX : ∀ b, S2 b ∨ O2 b → S b ∨ O b) {v : AV} {x : Value} (hv : RepV ρ w S O v x) (hc : v.clean = true) : RepV ρ2 w S2 O2 (v.ren h low off order) x :=
  clean_rep hX (ren_rep H M hv) (ren_clean hc)
/-- A row that is numbered anew. -/
theorem ren_row {r : ARow} {pl : Option Pl} (hR : RowIs ρ w S O r pl) (conv : ∀ g ∈ r.es, ∀ c ∈ g, ∀ x, r.flat = false → RepV ρ w S O c x → RepV ρ2 w S2 O2 (c.ren h low off order) x)
    (hX : ∀ b, S2 b ∨ O2 b → S b ∨ O b) (hO : ∀ b, O b → O2 b) (n : Nat) : RowIs ρ2 w S2 O2 { r.ren h low off order with gen := n } pl := by
  cases hf : r.flat with
  | true =>
    have e : ({ r.ren h low off order with gen := n } : ARow) = { r with gen := n } := by simp [ARow.ren, hf]
    rw [e]
    cases pl with
    | none => exact hR
    | some p =>
      have R : RowRep ρ w S O r p := hR
      obtain ⟨arr, ty, lo, hi, h1, h2, h3, h4⟩ := R.block
      exact ⟨R.k, R.lim, hO _ R.own, R.len, arr, ty, lo, hi, h1, h2, h3, fun e j g c hg hc => by
        obtain ⟨x, q1, q2, q3, q4⟩ := h4 e j g c hg hc
        exact ⟨x, q1, q2, .s ((q4 hf).mono hX), fun _ => (q4 hf).mono hX⟩⟩
  | false =>
    have e : ({ r.ren h low off order with gen := n } : ARow) = ⟨r.k, n, false, r.es.map (AV.renL h low off order)⟩ := by simp [ARow.ren, hf]
    rw [e]
    cases pl with
    | none =>
      have : r.es = [] := hR
      show r.es.map _ = []
      rw [this]; rfl
    | some p =>
      have R : RowRep ρ w S O r p := hR
      obtain ⟨arr, ty, lo, hi, h1, h2, h3, h4⟩ := R.block
      refine ⟨R.k, by simpa using R.lim, hO _ R.own, fun g hg => ?_, arr, ty, lo, hi, h1, h2, h3, fun e j g c hg hc => ?_⟩
      · obtain ⟨g0, hg0, rfl⟩ := List.mem_map.1 hg
        rw [renL_map, List.length_map]
        exact R.len g0 hg0
      · simp only [List.getElem?_map] at hg
        obtain ⟨g0, hg0, rfl⟩ := opt_map_some.1 hg
        rw [renL_map, List.getElem?_map] at hc
        obtain ⟨c0, hc0, rfl⟩ := opt_map_some.1 hc
        obtain ⟨x, q1, q2, q3, q4⟩ := h4 e j g0 c0 hg0 hc0
        exact ⟨x, q1, q2, conv g0 (List.mem_of_getElem? hg0) c0 (List.mem_of_getElem? hc0) x hf q3, fun h => by cases h⟩

theorem rows_get (f : ARow → ARow) : ∀ {l : List Nat}, (∀ i ∈ l, i < h.length) → (l.filterMap fun i => (h[i]?).map f).length = l.length ∧ ∀ (j i : Nat) r, l[j]? = some i → h[i]? = some r → (l.filterMap fun i => (h[i]?).map f)[j]? = some (f r)
  | [], _ => ⟨rfl, fun j i r hj => by simp at hj⟩
  | a :: l, hl => by
    obtain ⟨h1, h2⟩ := rows_get f (l := l) (fun i hi => hl i (by simp [hi]))
    obtain ⟨ra, ha⟩ : ∃ ra, h[a]? = some ra := ⟨_, List.getElem?_eq_getElem (hl a (by simp))⟩
    have e : ((a :: l).filterMap fun i => (h[i]?).map f) = f ra :: l.filterMap fun i => (h[i]?).map f := by
      rw [List.filterMap_cons, ha]; rfl
    rw [e]
    refine ⟨by simp [h1], fun j i r hj hr => ?_⟩
    cases j with
    | zero => simp at hj; subst hj; rw [ha] at hr; cases hr; rfl
    | succ j => simpa using h2 j i r (by simpa using hj) hr
theorem order_ok (hok : orderOk h low order = true) : order.Nodup ∧ ∀ i ∈ order, low ≤ i ∧ i < h.length := by
  simp only [orderOk, Bool.and_eq_true, decide_eq_true_eq, List.all_eq_true] at hok
  exact hok
/-- The rows of a callee become the caller's own. -/
theorem adopt_ok {h' h2 : List ARow} {ρ' : Rho} {w' : World} {O' : Nat → Prop} {v v2 : AV} {x : Value} (H : Heap ρ w S O h) (A : AdvW w (fun _ => False) w' O') (H' : Heap ρ' w' (fun b => S b ∨ O b) O' h') (hv : RepV ρ' w' (fun b => S b ∨ O b) O' v x)
    (ha : aadopt h h' v = some (v2, h2)) : ∃ ρ2, AdvW w O w' (fun b => O b ∨ O' b) ∧ (∀ id y, ρ id = some y → ρ2 id = some y) ∧ (∀ (id g : Nat) p, ρ2 id = some (g, some p) → ρ id = some (g, some p) ∨ w.heap.size ≤ p.b) ∧
      Heap ρ2 w' S (fun b => O b ∨ O' b) h2 ∧ RepV ρ2 w' S (fun b => O b ∨ O' b) v2 x ∧ (∀ id, id < h.length → ρ id = none → ρ2 id = none) ∧ ∃ e, h2 = h ++ e := by
  unfold aadopt at ha
  simp only at ha
  generalize areach h' 0 64 v.ids [] = order at ha
  split at ha
  case isFalse => cases ha
  rename_i hc
  cases ha
  simp only [Bool.and_eq_true, List.all_eq_true] at hc
  obtain ⟨⟨hok, hcl⟩, hcr⟩ := hc
  obtain ⟨hnd, hin⟩ := order_ok hok
  have hA : AdvW w O w' (fun b => O b ∨ O' b) := ⟨A.os, A.tape, A.output, A.size, fun b hb _ => A.same b hb (fun h => h), fun b hb => .inl hb, fun b hb => hb.imp (fun h => h) (fun h => (A.new b h).elim False.elim (fun h => h))⟩
  have hOn : ∀ b, O' b → w.heap.size ≤ b := fun b hb => (A.new b hb).elim False.elim (fun h => h)
  have hX : ∀ b, S b ∨ (O b ∨ O' b) → (S b ∨ O b) ∨ O' b := fun b hb => by
    rcases hb with hb | hb | hb
    · exact .inl (.inl hb)
    · exact .inl (.inr hb)
    · exact .inr hb
  refine ⟨fun id => if id < h.length then ρ id else ((order[id - h.length]?).bind ρ').map fun y => (0, y.2), hA, ?_, ?_, ?_, ?_, ?_, _, rfl⟩
  all_goals (try (generalize hρ2 : (fun id => if id < h.length then ρ id else ((order[id - h.length]?).bind ρ').map fun y => ((0 : Nat), y.2)) = ρ2))
  all_goals (try have e1 : ∀ id, id < h.length → ρ2 id = ρ id := fun id hid => by rw [← hρ2]; simp [hid])
  all_goals (try have e2 : ∀ id, h.length ≤ id → ρ2 id = ((order[id - h.length]?).bind ρ').map fun y => (0, y.2) := fun id hid => by rw [← hρ2]; simp [Nat.not_lt.2 hid])
  all_goals (try have M : RenMap ρ' ρ2 0 h.length order := ⟨fun id hid => by omega, fun j id g pl hj hid => by rw [e2 _ (by omega)]; simp [hj, hid]⟩)
  · intro id y hy
    rw [← hρ2]
    have := H.lt (id := id) (g := y.1) (pl := y.2) hy
    simp [this, hy]
  · intro id g p hid
    by_cases hlt : id < h.length
    · rw [e1 id hlt] at hid; exact .inl hid
    · rw [e2 id (by omega)] at hid
      obtain ⟨y, hy, e⟩ := opt_map_some.1 hid
      obtain ⟨i0, hi0, hρ'⟩ := opt_bind_some.1 hy
      obtain ⟨g0, pl0⟩ := y
      simp only [Prod.mk.injEq] at e
      obtain ⟨rfl, rfl⟩ := e
      obtain ⟨r, _, _, hR⟩ := H'.row i0 g0 _ hρ'
      exact .inr (hOn _ (show RowRep ρ' w' _ O' r p from hR).own)
  · have hext : Ext ρ ρ2 := fun id g pl hid => ⟨g, pl, by rw [e1 id (H.lt hid)]; exact hid, Nat.le_refl _, fun _ => rfl⟩
    obtain ⟨rl, rg⟩ := rows_get (h := h') (fun r => { r.ren h' 0 h.length order with gen := 0 }) (l := order) (fun i hi => (hin i hi).2)
    refine ⟨fun id g pl hid => ?_, fun i i' g g' p p' h1 h2 hb => ?_, fun b hb => ?_⟩
    · by_cases hlt : id < h.length
      · rw [e1 id hlt] at hid
        obtain ⟨r, hr, hg, hR⟩ := H.row id g pl hid
        refine ⟨r, by rw [List.getElem?_append_left hlt]; exact hr, hg, ?_⟩
        cases pl with
        | none => exact hR
        | some p => exact RowRep.adv hR hext hA (A.same _ (RowRep.lt (show RowRep ρ w S O r p from hR)) (fun h => h))
      · rw [e2 id (by omega)] at hid
        obtain ⟨y, hy, e⟩ := opt_map_some.1 hid
        obtain ⟨i0, hi0, hρ'⟩ := opt_bind_some.1 hy
        obtain ⟨g0, pl0⟩ := y
        simp only [Prod.mk.injEq] at e
        obtain ⟨rfl, rfl⟩ := e
        obtain ⟨r, hr, hg, hR⟩ := H'.row i0 g0 _ hρ'
        refine ⟨_, by rw [List.getElem?_append_right (by omega)]; exact rg _ i0 r hi0 hr, rfl, ?_⟩
        refine ren_row hR (fun gg hgg c hcc x hf hcx => ?_) hX (fun b hb => .inr hb) 0
        have hrow := hcr i0 (List.mem_of_getElem? hi0)
        rw [hr] at hrow
        simp only [hf, Bool.false_or, List.all_eq_true] at hrow
        exact ren_rep' H' M hX hcx (cleanL_at (hrow gg hgg) c hcc)
    · by_cases hi : i < h.length
      · rw [e1 i hi] at h1
        by_cases hi' : i' < h.length
        · rw [e1 i' hi'] at h2
          exact H.inj i i' g g' p p' h1 h2 hb
        · rw [e2 i' (by omega)] at h2
          obtain ⟨y, hy, e⟩ := opt_map_some.1 h2
          obtain ⟨i0, hi0, hρ'⟩ := opt_bind_some.1 hy
          obtain ⟨g0, pl0⟩ := y
          simp only [Prod.mk.injEq] at e
          obtain ⟨rfl, rfl⟩ := e
          obtain ⟨r, _, _, hR⟩ := H'.row i0 g0 _ hρ'
          obtain ⟨r1, _, _, hR1⟩ := H.row i g _ h1
          have q1 := RowRep.lt (show RowRep ρ w S O r1 p from hR1)
          have q2 := hOn _ (show RowRep ρ' w' _ O' r p' from hR).own
          omega
      · rw [e2 i (by omega)] at h1
        obtain ⟨y, hy, e⟩ := opt_map_some.1 h1
        obtain ⟨i0, hi0, hρ'⟩ := opt_bind_some.1 hy
        obtain ⟨g0, pl0⟩ := y
        simp only [Prod.mk.injEq] at e
        obtain ⟨rfl, rfl⟩ := e
        obtain ⟨r, _, _, hR⟩ := H'.row i0 g0 _ hρ'
        have q2 := hOn _ (show RowRep ρ' w' _ O' r p from hR).own
        by_cases hi' : i' < h.length
        · rw [e1 i' hi'] at h2
          obtain ⟨r1, _, _, hR1⟩ := H.row i' g' _ h2
          have q1 := RowRep.lt (show RowRep ρ w S O r1 p' from hR1)
          omega
        · rw [e2 i' (by omega)] at h2
          obtain ⟨y', hy', e'⟩ := opt_map_some.1 h2
          obtain ⟨i1, hi1, hρ1⟩ := opt_bind_some.1 hy'
          obtain ⟨g1, pl1⟩ := y'
          simp only [Prod.mk.injEq] at e'
          obtain ⟨rfl, rfl⟩ := e'
          have := H'.inj i0 i1 g0 g1 p p' hρ' hρ1 hb
          subst this
          have := (List.getElem?_inj (by have := (List.getElem?_eq_some_iff.1 hi0).1; exact this) hnd).1 (hi0.trans hi1.symm)
          omega
    · rcases hb with hb | hb | hb
      · exact Nat.lt_of_lt_of_le (H.bd b (.inl hb)) A.size
      · exact Nat.lt_of_lt_of_le (H.bd b (.inr hb)) A.size
      · exact H'.bd b (.inr hb)
  · exact ren_rep' H' M hX hv hcl
  · intro id hid hn
    rw [e1 id hid]; exact hn
end
end Go.Proofs.Ytfnonledcniojaa
