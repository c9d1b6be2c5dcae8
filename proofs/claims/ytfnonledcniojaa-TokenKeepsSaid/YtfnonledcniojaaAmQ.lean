/- What is read for a call, what a call leaves to be read, and rows that are numbered anew. Conditions: none. -/
import Derived.Test.YtfnonledcniojaaAmR
namespace Go.Proofs.Ytfnonledcniojaa
open Go Go.RowKit
section
variable {ρ : Rho} {w : World} {S O : Nat → Prop} {X : Nat → Prop}

theorem RepS.mono {X' : Nat → Prop} {v : AV} {x : Value} (h : RepS w X v x) (hx : ∀ b, X' b → X b) : RepS w X' v x := by
  induction h with
  | int k n => exact .int k n
  | bool b => exact .bool b
  | str s => exact .str s
  | nilfn => exact .nilfn
  | nilptr => exact .nilptr
  | agg cs vs hl h1 _ ih => exact .agg cs vs hl h1 ih
  | tup cs vs hl _ ih => exact .tup cs vs hl ih
  | fn f as bs xs ys h1 h2 _ _ i1 i2 => exact .fn f as bs xs ys h1 h2 i1 i2
  | data0 k full a cap hf => exact .data0 k full a cap hf
  | data k es full b off cap val h1 h2 h3 hX hb hc _ ih => exact .data k es full b off cap val h1 h2 h3 (fun h => hX (hx b h)) hb hc ih

/-- Values one by one. -/
def RepL (R : AV → Value → Prop) (vs : List AV) (xs : List Value) : Prop := vs.length = xs.length ∧ ∀ (i : Nat) v x, vs[i]? = some v → xs[i]? = some x → R v x
theorem RepL.nil {R : AV → Value → Prop} : RepL R [] [] := ⟨rfl, fun i v x h => by simp at h⟩
theorem RepL.cons {R : AV → Value → Prop} {v : AV} {x : Value} {vs : List AV} {xs : List Value} (h : R v x) (t : RepL R vs xs) : RepL R (v :: vs) (x :: xs) :=
  ⟨by simp [t.1], fun i u y hu hy => by
    cases i with
    | zero => simp at hu hy; subst hu hy; exact h
    | succ i => exact t.2 i u y (by simpa using hu) (by simpa using hy)⟩
theorem RepL.uncons {R : AV → Value → Prop} {v : AV} {x : Value} {vs : List AV} {xs : List Value} (t : RepL R (v :: vs) (x :: xs)) : R v x ∧ RepL R vs xs :=
  ⟨t.2 0 v x rfl rfl, by have := t.1; simp at this; exact this, fun i u y hu hy => t.2 (i + 1) u y (by simpa using hu) (by simpa using hy)⟩
theorem RepL.append {R : AV → Value → Prop} {vs us : List AV} {xs ys : List Value} (h : RepL R vs xs) (t : RepL R us ys) : RepL R (vs ++ us) (xs ++ ys) := by
  refine ⟨by simp [h.1, t.1], fun i v x hv hx => ?_⟩
  by_cases hi : i < vs.length
  · rw [List.getElem?_append_left hi] at hv
    rw [List.getElem?_append_left (by rw [← h.1]; exact hi)] at hx
    exact h.2 i v x hv hx
  · rw [List.getElem?_append_right (by omega)] at hv
    rw [List.getElem?_append_right (by rw [← h.1]; omega), ← h.1] at hx
    exact t.2 _ v x hv hx

/-! ### What is read for a call -/
/-- A flat row's cells. -/
theorem flat_cells {r : ARow} {p : Pl} (R : RowRep ρ w S O r p) (hf : r.flat = true) : ∃ val : Nat → Nat → Value, (∀ (e j : Nat), e < r.es.length → j < r.k → w.cell? ⟨p.b, p.base + (e * r.k + j), none⟩ = some (val e j) ∧ (val e j).oneCell' = true) ∧
    ∀ (e j : Nat) g c, r.es[e]? = some g → g[j]? = some c → RepS w (fun b => S b ∨ O b) c (val e j) := by
  obtain ⟨arr, ty, lo, hi, h1, h2, h3, h4⟩ := R.block
  have hk := R.k
  refine ⟨fun e j => arr.getD (p.base + (e * r.k + j)) undef, fun e j he hj => ?_, fun e j g c hg hc => ?_⟩
  · have hg := List.getElem?_eq_getElem he
    have hgl := R.len _ (List.mem_of_getElem? hg)
    obtain ⟨x, q1, q2, _⟩ := h4 e j _ _ hg (List.getElem?_eq_getElem (by omega))
    rw [cell_of_row w p.b _ arr ty _ h1]
    rw [hk, Nat.add_assoc] at q1
    simp [q1, q2]
  · obtain ⟨x, q1, q2, q3, q4⟩ := h4 e j g c hg hc
    rw [hk, Nat.add_assoc] at q1
    simpa [q1] using q4 hf
theorem drop_take_get {α : Type} {l : List α} {s n i : Nat} (_ : s + n ≤ l.length) (hi : i < n) : ((l.drop s).take n)[i]? = l[s + i]? := by
  rw [List.getElem?_take, if_pos hi, List.getElem?_drop]
/-- What an own slice of a flat row shows. -/
theorem own_cells {h : List ARow} (H : Heap ρ w S O h) {id g s l c : Nat} {x : Value} {r : ARow} (hv : RepV ρ w S O (.own id g s l c) x) (hr : h[id]? = some r) (hg : r.gen = g) (hf : r.flat = true) (hsl : s + l ≤ r.es.length) :
    ∃ a cap, x = .slice a ((r.es.drop s).take l).length cap ∧ ((r.es.drop s).take l).length ≤ cap ∧ (∀ g ∈ (r.es.drop s).take l, g.length = r.k) ∧ ((r.es.drop s).take l = [] ∨ ∃ (b off : Nat) (val : Nat → Nat → Value), a = some ⟨b, off, none⟩ ∧ O b ∧ b < w.heap.size ∧
      (∀ (e j : Nat), e < ((r.es.drop s).take l).length → j < r.k → w.cell? ⟨b, off + (e * r.k + j), none⟩ = some (val e j) ∧ (val e j).oneCell' = true) ∧
      (∀ (e j : Nat) g c, ((r.es.drop s).take l)[e]? = some g → g[j]? = some c → RepS w (fun b => S b ∨ O b) c (val e j))) := by
  obtain ⟨g', pl, a, cap, rfl, hρ, hle, hlc, _, has, hpl⟩ := rv_own hv
  obtain ⟨hg', his⟩ := H.at hρ hr
  have hll : ((r.es.drop s).take l).length = l := by simp; omega
  refine ⟨a, cap, by rw [hll], by rw [hll]; exact hlc, fun g hg => ?_, ?_⟩
  · have hm := List.mem_of_mem_drop (List.mem_of_mem_take hg)
    cases pl with
    | none => have : r.es = [] := his; rw [this] at hm; cases hm
    | some p => exact (show RowRep ρ w S O r p from his).len g hm
  · by_cases h0 : l = 0
    · left; subst h0; simp
    · rcases hpl (by omega) with hc | ⟨p, rfl, rfl, hlim⟩
      · omega
      have R : RowRep ρ w S O r p := his
      obtain ⟨val, c1, c2⟩ := flat_cells R hf
      refine .inr ⟨p.b, p.base + s * p.k, fun e j => val (s + e) j, rfl, R.own, RowRep.lt R, fun e j he hj => ?_, fun e j g c hg hc => ?_⟩
      · rw [hll] at he
        have := c1 (s + e) j (by omega) hj
        rw [Nat.add_mul] at this
        rw [R.k]
        rw [show p.base + s * r.k + (e * r.k + j) = p.base + (s * r.k + e * r.k + j) from by omega]
        exact this
      · have he : e < l := by have := (List.getElem?_eq_some_iff.1 hg).1; omega
        rw [drop_take_get hsl he] at hg
        exact c2 (s + e) j g c hg hc
mutual
theorem view_rep {h : List ARow} (H : Heap ρ w S O h) : ∀ (v : AV) {v' : AV} {x : Value}, RepV ρ w S O v x → aview h v = some v' → RepV (fun _ => none) w (fun b => S b ∨ O b) (fun _ => False) v' x
  | .int _ _, _, _, hv, hw => by cases hw; obtain rfl := rv_int hv; exact .s (.int _ _)
  | .bool _, _, _, hv, hw => by cases hw; obtain rfl := rv_bool hv; exact .s (.bool _)
  | .str _, _, _, hv, hw => by cases hw; obtain rfl := rv_str hv; exact .s (.str _)
  | .nilfn, _, _, hv, hw => by cases hw; obtain rfl := rv_nilfn hv; exact .s .nilfn
  | .nilptr, _, _, hv, hw => by cases hw; obtain rfl := rv_nilptr hv; exact .s .nilptr
  | .unk, _, _, _, hw => by cases hw
  | .data bo k es full, _, _, hv, hw => by
    cases hw
    obtain ⟨a, cap, rfl, h1, h2, h3, h4⟩ := rv_data hv
    refine rv_mk_data h1 h2 h3 (h4.imp (fun h => h) ?_)
    rintro ⟨b, off, val, q1, q2, q3, q4, q5, q6⟩
    refine ⟨b, off, val, q1, fun h => h, fun hb h => ?_, q4, q5, fun e j g c hg hc => (q6 e j g c hg hc).mono fun b hb => hb.elim (fun h => h) False.elim⟩
    exact h.elim (q3 hb) q2
  | .dptr cs, _, _, hv, hw => by
    cases hw
    obtain ⟨b, off, val, rfl, q1, q2, q3, q4⟩ := rv_dptr hv
    exact .dptr cs b off val (fun h => h) q2 q3 fun j c hj => (q4 j c hj).mono fun b hb => hb.elim (fun h => h) False.elim
  | .own id g s l c, _, _, hv, hw => by
    obtain ⟨r, hr, hw⟩ := opt_bind_some.1 hw
    split at hw
    case isFalse => cases hw
    rename_i hc
    cases hw
    obtain ⟨a, cap, rfl, h1, h2, h3⟩ := own_cells H hv hr hc.1 hc.2.1 hc.2.2
    refine rv_mk_data h1 (fun h => by cases h) h2 (h3.imp (fun h => h) ?_)
    rintro ⟨b, off, val, q1, q2, q3, q4, q5⟩
    exact ⟨b, off, val, q1, fun h => h, fun h => Bool.noConfusion h, q3, q4, fun e j g c hg hc => (q5 e j g c hg hc).mono fun b hb => hb.elim (fun h => h) False.elim⟩
  | .ptr id g e o, _, _, hv, hw => by
    obtain ⟨r, hr, hw⟩ := opt_bind_some.1 hw
    split at hw
    case isFalse => cases hw
    rename_i hc
    obtain ⟨grp, hg, e1⟩ := opt_map_some.1 hw
    cases e1
    obtain ⟨g', pl, ad, rfl, hρ, hle, hpl⟩ := rv_ptr hv
    obtain ⟨hg', his⟩ := H.at hρ hr
    obtain ⟨p, rfl, rfl⟩ := hpl (by omega)
    have R : RowRep ρ w S O r p := his
    obtain ⟨val, c1, c2⟩ := flat_cells R hc.2
    have hgl := R.len grp (List.mem_of_getElem? hg)
    have he := (List.getElem?_eq_some_iff.1 hg).1
    refine .dptr _ p.b _ (fun j => val e (o + j)) (fun h => h) (RowRep.lt R) (fun j hj => ?_) fun j c hj => ?_
    · simp only [List.length_drop] at hj
      have := c1 e (o + j) he (by omega)
      rw [R.k, show p.base + e * r.k + o + j = p.base + (e * r.k + (o + j)) from by omega]
      exact this
    · rw [List.getElem?_drop] at hj
      exact (c2 e (o + j) grp c hg hj).mono fun b hb => hb.elim (fun h => h) False.elim
  | .agg cs, _, _, hv, hw => by
    obtain ⟨cs', hw2, e⟩ := opt_map_some.1 hw
    cases e
    obtain ⟨vs, rfl, h1, h2, h3⟩ := rv_agg hv
    have := viewL_rep H cs ⟨h1, h3⟩ hw2
    exact .agg cs' vs this.1 h2 this.2
  | .tup cs, _, _, hv, hw => by
    obtain ⟨cs', hw2, e⟩ := opt_map_some.1 hw
    cases e
    obtain ⟨vs, rfl, h1, h3⟩ := rv_tup hv
    have := viewL_rep H cs ⟨h1, h3⟩ hw2
    exact .tup cs' vs this.1 this.2
  | .fn f as bs, _, _, hv, hw => by
    unfold aview at hw
    split at hw
    case isFalse => cases hw
    rename_i hc
    cases hw
    exact .s ((rv_stable hv (by simpa [AV.stable] using hc)).mono fun b hb => hb.elim (fun h => h) False.elim)
theorem viewL_rep {h : List ARow} (H : Heap ρ w S O h) : ∀ (vs : List AV) {vs' : List AV} {xs : List Value}, RepL (RepV ρ w S O) vs xs → aviewL h vs = some vs' → RepL (RepV (fun _ => none) w (fun b => S b ∨ O b) (fun _ => False)) vs' xs
  | [], _, xs, hv, hw => by
    cases hw
    have : xs = [] := List.eq_nil_of_length_eq_zero hv.1.symm
    subst this; exact .nil
  | v :: vs, _, xs, hv, hw => by
    obtain ⟨u, hu, hw⟩ := opt_bind_some.1 hw
    obtain ⟨us, hus, e⟩ := opt_map_some.1 hw
    cases e
    cases xs with
    | nil => have := hv.1; simp at this
    | cons x xs =>
      obtain ⟨h1, h2⟩ := hv.uncons
      exact .cons (view_rep H v h1 hu) (viewL_rep H vs h2 hus)
end
/-! ### What a call leaves -/
mutual
/-- A frozen answer lies in no block of X: X's blocks are none of the callee's own. -/
theorem freeze_rep {h : List ARow} {X : Nat → Prop} (H : Heap ρ w S O h) (hX : ∀ b, X b → S b ∨ O b) (hOX : ∀ b, O b → ¬ X b) : ∀ (v : AV) {v' : AV} {x : Value}, RepV ρ w S O v x → afreeze h v = some v' → RepS w X v' x
  | .int _ _, _, _, hv, hw => by cases hw; obtain rfl := rv_int hv; exact .int _ _
  | .bool _, _, _, hv, hw => by cases hw; obtain rfl := rv_bool hv; exact .bool _
  | .str _, _, _, hv, hw => by cases hw; obtain rfl := rv_str hv; exact .str _
  | .nilfn, _, _, hv, hw => by cases hw; obtain rfl := rv_nilfn hv; exact .nilfn
  | .nilptr, _, _, hv, hw => by cases hw; obtain rfl := rv_nilptr hv; exact .nilptr
  | .unk, _, _, _, hw => by cases hw
  | .data true k es full, _, _, hv, hw => by cases hw
  | .data false k es full, _, _, hv, hw => by
    cases hw
    obtain ⟨a, cap, rfl, h1, h2, h3, h4⟩ := rv_data hv
    rcases h4 with rfl | ⟨b, off, val, rfl, q2, q3, q4, q5, q6⟩
    · exact .data0 _ _ _ _ (fun h => by cases h)
    · exact .data k es false b off cap val h1 (fun h => by cases h) h3 (fun hx => (hX b hx).elim (q3 rfl) q2) q4 q5 fun e j g c hg hc => (q6 e j g c hg hc).mono hX
  | .dptr cs, _, _, hv, hw => by cases hw
  | .ptr .., _, _, hv, hw => by cases hw
  | .own id g s l c, _, _, hv, hw => by
    obtain ⟨r, hr, hw⟩ := opt_bind_some.1 hw
    split at hw
    case isFalse => cases hw
    rename_i hc
    cases hw
    obtain ⟨a, cap, rfl, h1, h2, h3⟩ := own_cells H hv hr hc.1 hc.2.1 hc.2.2
    rcases h3 with h3 | ⟨b, off, val, rfl, q2, q3, q4, q5⟩
    · rw [h3]; exact .data0 _ _ _ _ (fun h => by cases h)
    · exact .data _ _ false b off cap val h1 (fun h => by cases h) h2 (hOX b q2) q3 q4 fun e j g c hg hc => (q5 e j g c hg hc).mono hX
  | .agg cs, _, _, hv, hw => by
    obtain ⟨cs', hw2, e⟩ := opt_map_some.1 hw
    cases e
    obtain ⟨vs, rfl, h1, h2, h3⟩ := rv_agg hv
    have := freezeL_rep H hX hOX cs ⟨h1, h3⟩ hw2
    exact .agg cs' vs this.1 h2 this.2
  | .tup cs, _, _, hv, hw => by
    obtain ⟨cs', hw2, e⟩ := opt_map_some.1 hw
    cases e
    obtain ⟨vs, rfl, h1, h3⟩ := rv_tup hv
    have := freezeL_rep H hX hOX cs ⟨h1, h3⟩ hw2
    exact .tup cs' vs this.1 this.2
  | .fn f as bs, _, _, hv, hw => by
    unfold afreeze at hw
    split at hw
    case isFalse => cases hw
    rename_i hc
    cases hw
    exact (rv_stable hv (by simpa [AV.stable] using hc)).mono hX
theorem freezeL_rep {h : List ARow} {X : Nat → Prop} (H : Heap ρ w S O h) (hX : ∀ b, X b → S b ∨ O b) (hOX : ∀ b, O b → ¬ X b) : ∀ (vs : List AV) {vs' : List AV} {xs : List Value}, RepL (RepV ρ w S O) vs xs → afreezeL h vs = some vs' → RepL (RepS w X) vs' xs
  | [], _, xs, hv, hw => by
    cases hw
    have : xs = [] := List.eq_nil_of_length_eq_zero hv.1.symm
    subst this; exact .nil
  | v :: vs, _, xs, hv, hw => by
    obtain ⟨u, hu, hw⟩ := opt_bind_some.1 hw
    obtain ⟨us, hus, e⟩ := opt_map_some.1 hw
    cases e
    cases xs with
    | nil => have := hv.1; simp at this
    | cons x xs =>
      obtain ⟨h1, h2⟩ := hv.uncons
      exact .cons (freeze_rep H hX hOX v h1 hu) (freezeL_rep H hX hOX vs h2 hus)
end
end
end Go.Proofs.Ytfnonledcniojaa
