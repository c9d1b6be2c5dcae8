/- Each operation of the small machine stands for the program's operation: stores, make, clear, copy. Conditions: none. -/
import Derived.Test.YtfnonledcniojaaAmN
namespace Go.Proofs.Ytfnonledcniojaa
open Go Go.RowKit
section
variable {P : Program} {G : Nat → Option (List AV)} {ρ : Rho} {w : World} {S O : Nat → Prop} {env : AEnv} {h : List ARow} {a : Act} {o : Oper} {v : AV} {h' : List ARow}

theorem ok_mkrow {k bytes : Nat} {zero : List AV} {l c : AOpd} (hop : chkOp P o.op (.mkrow k bytes zero l c) = true) (R : Rel G ρ w S O env a) (H : Heap ρ w S O h) (he : aop G env h (.mkrow k bytes zero l c) = some (v, h')) : OpN ρ w S O h ((execOp a.eval o).run P w) v h' := by
  obtain ⟨vl, hl0, he⟩ := opt_bind_some.1 he
  obtain ⟨vc, hc0, he⟩ := opt_bind_some.1 he
  split at he
  case h_2 => cases he
  rename_i l0 c0
  split at he
  case isFalse => cases he
  rename_i hcond
  obtain ⟨hl, rfl, hb, hzk⟩ := hcond
  cases he
  simp only [chkOp] at hop
  split at hop
  case h_2 => cases hop
  rename_i t l' c' heq
  simp only [Bool.and_eq_true] at hop
  obtain ⟨⟨hx, hy⟩, hop⟩ := hop
  split at hop
  case h_2 => cases hop
  rename_i e hu
  simp only [Bool.and_eq_true, decide_eq_true_eq] at hop
  obtain ⟨⟨⟨⟨h1, h2⟩, h3⟩, h3b⟩, h4⟩ := hop
  obtain ⟨i, z, hi, hz, hcst⟩ := zero_of h2
  obtain ⟨i', hi', hk⟩ := info_of_size h1
  obtain rfl := Option.some.inj (hi.symm.trans hi')
  rw [hi] at h4
  simp only [beq_iff_eq] at h4
  simp only [aboundsOk, decide_eq_true_eq] at hb
  have e1 := rv_int (ev_rep hx R hl0)
  have e2 := rv_int (ev_rep hy R hc0)
  have hq := consts_cells (ρ := ρ) (w := w) (S := S) (O := O) hcst
  have hzs : z.cells.size = k := by have := hq.1; simp at this; omega
  have hb1 : l0.toNat * 1 ≤ l0.toNat * bytes := Nat.mul_le_mul_left _ h3b
  have hrun := run_make (P := P) w t e i z hu hi hz .i64 .i64 l0 l0 hl (Int.le_refl _) (by
    rw [h4]
    have h5 : (l0.toNat : Int) = l0 := Int.toNat_of_nonneg hl
    have h6 : ((l0.toNat * bytes : Nat) : Int) ≤ 140737488355328 := Int.ofNat_le.2 hb
    rw [Int.natCast_mul, h5, Int.mul_comm] at h6
    omega) (by omega)
  have hq2 := zeros_cells (hq.weak (f' := AV.stableL zero) (fun _ => rfl)) l0.toNat
  have harr : (List.replicate l0.toNat z.cells.toList).flatten.toArray = madeCells z.cells (l0.toNat * i.size) := by rw [made_eq, hk, ← hzs]; rfl
  refine .alloc H (madeCells z.cells (l0.toNat * i.size)) e ⟨k, 0, AV.stableL zero, List.replicate l0.toNat zero⟩ l0.toNat _ (by simp) (by simp [size_madeCells, hk]) (fun g hg => by rw [List.eq_of_mem_replicate hg]; exact hzk)
    (fun i _ => by rw [← harr]; simp) hq2 (x := .slice (some ⟨w.heap.size, 0, none⟩) l0.toNat l0.toNat) (by simp [execOp, heq, e1, e2, hrun])
    (.own _ 0 0 _ 0 _ _ _ _ (upd_same ρ _ _) (Nat.le_refl _) (Nat.le_refl _) (Nat.le_refl _) (fun _ => rfl) (fun _ => .inr ⟨_, rfl, by simp, by simp⟩))

/-! ### Stores -/
theorem store_run {t : TypeId} {m b o : Nat} {x : Value} {vs : List Value} (hs : sizeIs P t m = true) (hx : x.cells = vs.toArray) (hm : vs.length = m) (ht : w.there b o m) (h1 : ∀ v ∈ vs, v.oneCell' = true) :
    (Instr.storeAt t (.pointer (some ⟨b, o, none⟩)) x).run P w = .ok () (w.setCells b o vs) := by
  have := run_storeCells_cells (P := P) b o vs 0 w (fun j hj => by simpa using (ht j (by omega)).1) (fun j hj => by simpa using (ht j (by omega)).2) h1
  simp only [Nat.add_zero] at this
  simp only [Instr.storeAt, Instr.sureAddr, Sem.run_bind, Sem.run_pure, Result.andThen_ok, storeVar, sizeOf_run hs, hx, List.size_toArray, hm]
  simp [this]
theorem set_patch {g : List AV} {off : Nat} {v : AV} (h : off < g.length) : g.set off v = patch off [v] g := by
  unfold patch
  rw [List.set_eq_take_append_cons_drop, if_pos h]
  simp
theorem OpOk.store {run : Result Next} {id gg : Nat} {p : Pl} {r : ARow} {e off : Nat} {grp cs : List AV} {vs : List Value} {st : Bool} (H : Heap ρ w S O h) (hρ : ρ id = some (gg, some p)) (hrow : h[id]? = some r) (hg : r.es[e]? = some grp) (hle : off + cs.length ≤ grp.length)
    (hq : CellsP (CellQ ρ w S O st) cs vs) (hr : (w.there p.b (p.base + (e * r.k + off)) vs.length) → run = .ok .skip (w.setCells p.b (p.base + (e * r.k + off)) vs)) : OpOk ρ w S O h run (.tup []) (h.set id (r.put e (patch off cs grp) st)) := by
  obtain ⟨_, his⟩ := H.at hρ hrow
  have R : RowRep ρ w S O r p := his
  have hgl := R.len grp (List.mem_of_getElem? hg)
  have hlt := (List.getElem?_eq_some_iff.1 hg).1
  have hin : e * r.k + r.k ≤ r.es.length * r.k := by
    have := Nat.mul_le_mul_right r.k (show e + 1 ≤ r.es.length from hlt)
    rw [Nat.add_mul] at this; omega
  have hpl : (patch off cs grp).length = r.k := by rw [length_patch hle, hgl]
  obtain ⟨h1, h2, h3⟩ := H.store hρ hrow (e * r.k + off) cs vs (r.es.set e (patch off cs grp)) (r.flat && st) (by rw [← hq.1]; omega)
    (fun g hg' => (List.mem_or_eq_of_mem_set hg').elim (R.len g) (fun e => e ▸ hpl)) (by simp) (flatten_set R.len off cs hg (by omega)) (fun hf => by simp at hf; exact hf.1) (hq.weak (fun hf => by simp at hf; exact hf.2))
  exact ⟨undef, _, ρ, O, .inr ⟨hr h3, rfl⟩, h2, .refl ρ, h1, .tup [] [] rfl (fun i c v hc => by simp at hc), fun _ _ hn => hn⟩
theorem ok_store {agg : Bool} {m : Nat} {x y : AOpd} (hop : chkOp P o.op (.store agg m x y) = true) (R : Rel G ρ w S O env a) (H : Heap ρ w S O h) (he : aop G env h (.store agg m x y) = some (v, h')) : OpOk ρ w S O h ((execOp a.eval o).run P w) v h' := by
  obtain ⟨vp, hp0, he⟩ := opt_bind_some.1 he
  obtain ⟨vx, hx0, he⟩ := opt_bind_some.1 he
  obtain ⟨h1, hst, e⟩ := opt_map_some.1 he
  simp only [Prod.mk.injEq] at e
  obtain ⟨rfl, rfl⟩ := e
  simp only [chkOp] at hop
  split at hop
  case h_2 => cases hop
  rename_i t p' x' heq
  simp only [Bool.and_eq_true] at hop
  obtain ⟨⟨⟨hp, hx⟩, hs⟩, hag⟩ := hop
  have rp := ev_rep hp R hp0
  have rx := ev_rep hx R hx0
  cases vp with
  | ptr id g e off =>
    obtain ⟨r, hrow, hst⟩ := opt_bind_some.1 hst
    split at hst
    case isFalse => cases hst
    rename_i hgen
    obtain ⟨grp, hg, hst⟩ := opt_bind_some.1 hst
    obtain ⟨g', pl, ad, hz, hρ, hle, hpl⟩ := rv_ptr rp
    obtain ⟨hg', his⟩ := H.at hρ hrow
    obtain ⟨p, rfl, rfl⟩ := hpl (by omega)
    have hk : p.k = r.k := RowRep.k his
    have main : ∀ cs, vx.cells = some cs → cs.length = m → off + m ≤ grp.length → OpOk ρ w S O h ((execOp a.eval o).run P w) (.tup []) (h.set id (r.put e (patch off cs grp) (AV.stableL cs))) := fun cs hcs hm hle' => by
      obtain ⟨vs, e1, e2⟩ := cells_of rx hcs
      have hvm : vs.length = m := by rw [← e2.1]; exact hm
      refine .store H hρ hrow hg (by omega) e2 fun hth => ?_
      have ea : p.base + (e * r.k + off) = p.base + e * p.k + off := by rw [hk]; omega
      rw [ea] at hth ⊢
      have hrun := store_run (P := P) hs e1 hvm (by rw [← hvm]; exact hth) e2.one
      simp only [execOp, heq, hz, Sem.run_bind, hrun, Result.andThen_ok, Sem.run_pure]
    cases agg with
    | true =>
      simp only [if_true] at hst
      cases vx with
      | agg cs =>
        have hst : (if cs.length = m ∧ off + m ≤ grp.length then some (h.set id (r.put e (patch off cs grp) (AV.stableL cs))) else none) = some h1 := hst
        split at hst
        case isFalse => cases hst
        rename_i hc
        cases hst
        exact main cs rfl hc.1 hc.2
      | _ => cases hst
    | false =>
      obtain rfl : m = 1 := by simpa using hag
      simp only [Bool.false_eq_true, if_false] at hst
      split at hst
      · cases hst
      · cases hst
      · cases hst
      · rename_i n1 n2 n3
        split at hst
        case isFalse => cases hst
        rename_i hlt
        cases hst
        rw [set_patch hlt]
        have hsl : vx.stable = AV.stableL [vx] := by simp [AV.stableL]
        rw [hsl]
        refine main [vx] ?_ rfl (by omega)
        cases vx <;> first | rfl | exact absurd rfl (n1 _) | exact absurd rfl (n2 _) | exact absurd rfl n3
  | _ => cases hst

/-- A row's cells may be told as less. -/
theorem Heap.reflat {id : Nat} {r : ARow} (H : Heap ρ w S O h) (hrow : h[id]? = some r) (fl : Bool) (hf : fl = true → r.flat = true) : Heap ρ w S O (h.set id { r with flat := fl }) := by
  refine H.step (.refl ρ) (.refl w O) (fun b hb => H.bd b (.inr hb)) (fun id' g pl hid => ?_) H.inj
  by_cases hi : id' = id
  · subst hi
    obtain ⟨hg, his⟩ := H.at hid hrow
    refine .inr ⟨{ r with flat := fl }, by rw [List.getElem?_set_self (List.getElem?_eq_some_iff.1 hrow).1], hg, ?_⟩
    cases pl with
    | none => exact his
    | some p =>
      have R : RowRep ρ w S O r p := his
      obtain ⟨arr, ty, lo, hi, h1, h2, h3, h4⟩ := R.block
      exact ⟨R.k, R.lim, R.own, R.len, arr, ty, lo, hi, h1, h2, h3, fun e j g c hg hc => by
        obtain ⟨x, q1, q2, q3, q4⟩ := h4 e j g c hg hc
        exact ⟨x, q1, q2, q3, fun h => q4 (hf h)⟩⟩
  · exact .inl ⟨hid, by rw [List.getElem?_set_ne (Ne.symm hi)], fun _ _ => rfl⟩
theorem flatten_splice {es ys : List (List AV)} {k : Nat} (h1 : ∀ g ∈ es, g.length = k) (h2 : ∀ g ∈ ys, g.length = k) (s : Nat) : (es.take s ++ ys ++ es.drop (s + ys.length)).flatten = patch (s * k) ys.flatten es.flatten := by
  rw [List.flatten_append, List.flatten_append, flatten_take h1, flatten_drop h1]
  unfold patch
  rw [flatten_len h2, Nat.add_mul]
/-- Some elements of a row of the call's own are written over. -/
theorem Heap.splice {id g : Nat} {p : Pl} {r : ARow} {s : Nat} {ys : List (List AV)} {vs : List Value} {fl : Bool} (H : Heap ρ w S O h) (hρ : ρ id = some (g, some p)) (hrow : h[id]? = some r) (hle : s + ys.length ≤ r.es.length) (hlen : ∀ g ∈ ys, g.length = r.k)
    (hf : fl = true → r.flat = true) (hq : CellsP (CellQ ρ w S O fl) ys.flatten vs) :
    Heap ρ (w.setCells p.b (p.base + s * r.k) vs) S O (h.set id { r with es := r.es.take s ++ ys ++ r.es.drop (s + ys.length), flat := fl }) ∧ AdvW w O (w.setCells p.b (p.base + s * r.k) vs) O ∧ w.there p.b (p.base + s * r.k) vs.length := by
  obtain ⟨_, his⟩ := H.at hρ hrow
  have R : RowRep ρ w S O r p := his
  have hyl := flatten_len hlen
  refine H.store hρ hrow (s * r.k) ys.flatten vs _ fl ?_ ?_ ?_ (flatten_splice R.len hlen s) hf hq
  · rw [← hq.1, hyl, ← Nat.add_mul]; exact Nat.mul_le_mul_right _ hle
  · intro g hg
    rcases List.mem_append.1 hg with hg | hg
    · rcases List.mem_append.1 hg with hg | hg
      · exact R.len g (List.mem_of_mem_take hg)
      · exact hlen g hg
    · exact R.len g (List.mem_of_mem_drop hg)
  · simp; omega
theorem const_stable {v : Value} {c : AV} (h : chkConst v c = true) : c.stable = true := by
  unfold chkConst at h
  split at h <;> first | rfl | cases h
theorem consts_stable : ∀ {vs : List Value} {cs : List AV}, chkConsts vs cs = true → AV.stableL cs = true
  | [], [], _ => rfl
  | v :: vs, c :: cs, h => by
    simp only [chkConsts, Bool.and_eq_true] at h
    simp only [AV.stableL, const_stable h.1, consts_stable h.2, Bool.and_self]
  | [], _ :: _, h => by cases h
  | _ :: _, [], h => by cases h
theorem zeroCells_eq (z : Array Value) (n : Nat) : (Builtin.zeroCells z n).toList = (List.replicate n z.toList).flatten := by
  have := made_eq z n
  rw [show Builtin.zeroCells z n = (Array.range (n * z.size)).map (z[· % z.size]!) from rfl, ← this]
theorem storeCells_run {b o : Nat} {vs : List Value} (ht : w.there b o vs.length) (h1 : ∀ v ∈ vs, v.oneCell' = true) : (storeCells ⟨b, o, none⟩ vs).run P w = .ok () (w.setCells b o vs) := by
  have := run_storeCells_cells (P := P) b o vs 0 w (fun j hj => by simpa using (ht j (by omega)).1) (fun j hj => by simpa using (ht j (by omega)).2) h1
  simpa using this
theorem ok_clear {zero : List AV} {x : AOpd} (hop : chkOp P o.op (.clear zero x) = true) (R : Rel G ρ w S O env a) (H : Heap ρ w S O h) (he : aop G env h (.clear zero x) = some (v, h')) : OpOk ρ w S O h ((execOp a.eval o).run P w) v h' := by
  obtain ⟨v0, h0, he⟩ := opt_bind_some.1 he
  split at he
  case h_2 => cases he
  rename_i id g s l cc
  obtain ⟨r, hrow, he⟩ := opt_bind_some.1 he
  split at he
  case isFalse => cases he
  rename_i hc
  cases he
  simp only [chkOp] at hop
  split at hop
  case h_2 => cases hop
  rename_i args ts heq
  split at hop
  case h_2 => cases hop
  rename_i y t ha ht
  simp only [Bool.and_eq_true] at hop
  obtain ⟨hx, hop⟩ := hop
  have e1 : args = #[y] := by apply Array.ext'; simp [ha]
  have e2 : ts = #[t] := by apply Array.ext'; simp [ht]
  subst e1 e2
  split at hop
  case h_2 => cases hop
  rename_i e hu
  obtain ⟨i, z, hi, hz, hcst⟩ := zero_of hop
  have hstab := consts_stable hcst
  obtain ⟨g', pl, ad, cap, hzz, hρ, hle, hlc, _, has, hpl⟩ := rv_own (ev_rep hx R h0)
  obtain ⟨hg', his⟩ := H.at hρ hrow
  rw [hstab, Bool.and_true]
  have tup0 : ∀ ρ w O, RepV ρ w S O (.tup []) (.tuple #[]) := fun ρ w O => .tup [] [] rfl (fun i c v hc => by simp at hc)
  by_cases hl : l = 0
  · subst hl
    have er : (⟨r.k, r.gen, r.flat, r.es.take s ++ List.replicate 0 zero ++ r.es.drop (s + 0)⟩ : ARow) = { r with flat := r.flat } := by simp
    rw [er]
    refine ⟨.tuple #[], w, ρ, O, .inl ?_, .refl w O, .refl ρ, H.reflat hrow _ (fun h => h), tup0 _ _ _, fun _ _ h => h⟩
    cases ad <;> simp [execOp, heq, resolve, invoke, builtin, Builtin.clear_, hzz, run_underlying hu]
  · rcases hpl (by omega) with hc0 | ⟨p, rfl, rfl, hlim⟩
    · omega
    have hk : p.k = r.k := RowRep.k his
    have hq := zeros_cells ((consts_cells (ρ := ρ) (w := w) (S := S) (O := O) hcst).weak (f' := r.flat) (fun _ => rfl)) l
    obtain ⟨q1, q2, q3⟩ := H.splice hρ hrow (s := s) (ys := List.replicate l zero) (fl := r.flat) (by simp; omega) (fun g hg => by rw [List.eq_of_mem_replicate hg]; exact hc.2.1.symm) (fun h => h) hq
    simp only [List.length_replicate] at q1
    refine ⟨.tuple #[], _, ρ, O, .inl ?_, q2, .refl ρ, q1, tup0 _ _ _, fun _ _ h => h⟩
    have hst := storeCells_run (P := P) q3 hq.one
    rw [← hk] at hst ⊢
    rw [← zeroCells_eq] at hst ⊢
    obtain ⟨l, rfl⟩ : ∃ k, l = k + 1 := ⟨l - 1, by omega⟩
    simp [execOp, heq, resolve, invoke, builtin, Builtin.clear_, hzz, run_underlying hu, zeroValue, typeInfo, hi, hz, hst]

theorem firstCells_run {ad : Option Addr} {len cap k n : Nat} {us : List Value} (hl : us.length = n * k) (hc : us = [] ∨ ∃ b off, ad = some ⟨b, off, none⟩ ∧ ∀ j v, us[j]? = some v → w.cell? ⟨b, off + j, none⟩ = some v) :
    (Builtin.firstCells k n (.slice ad len cap)).run P w = .ok us.toArray w := by
  rcases hc with rfl | ⟨b, off, rfl, hc⟩
  · have h0 : n * k = 0 := by simpa using hl.symm
    cases ad with
    | none => exact run_firstCells_none w k n len cap
    | some ad => exact run_firstCells_some w k n ad len cap [] (by simp; omega) (by simp)
  · exact run_firstCells_some w k n ⟨b, off, none⟩ len cap us hl fun j v hj => by rw [addr_add]; exact hc j v hj
/-- The cells of a slice's first elements. -/
theorem groups_cells {k : Nat} {v : AV} {x : Value} {es : List (List AV)} {fl : Bool} (H : Heap ρ w S O h) (hr : RepV ρ w S O v x) (hg : agroups h k v = some (es, fl)) :
    ∃ ad cap us, x = .slice ad es.length cap ∧ es.length ≤ cap ∧ (∀ g ∈ es, g.length = k) ∧ CellsP (CellQ ρ w S O fl) es.flatten us ∧ (us = [] ∨ ∃ b off, ad = some ⟨b, off, none⟩ ∧ ∀ j v, us[j]? = some v → w.cell? ⟨b, off + j, none⟩ = some v) := by
  obtain ⟨ad, cap, h1, h2, h3, h4⟩ := groups_rep H hr hg
  rcases h4 with rfl | ⟨b, off, val, h5, h6, h7, h8⟩
  · exact ⟨ad, cap, [], h1, h2, h3, by simpa using CellsP.nil, .inl rfl⟩
  · have hfl := flatten_len h3
    refine ⟨ad, cap, (List.range (es.length * k)).map fun i => val (i / k) (i % k), h1, h2, h3, ⟨by simp [hfl], fun i c u hc hu => ?_⟩, .inr ⟨b, off, h5, fun j u hj => ?_⟩⟩
    · have hlt : i < es.length * k := by have := (List.getElem?_eq_some_iff.1 hc).1; omega
      have hk0 : 0 < k := by rcases Nat.eq_zero_or_pos k with h | h; (rw [h] at hlt; omega); exact h
      have he : i / k < es.length := by rw [Nat.div_lt_iff_lt_mul hk0]; exact hlt
      have hj : i % k < k := Nat.mod_lt _ hk0
      have hij : i / k * k + i % k = i := Nat.div_add_mod' i k
      have hgg := List.getElem?_eq_getElem he
      have hc' := flatten_get h3 hgg hj
      rw [hij, hc] at hc'
      simp [hlt] at hu
      subst hu
      obtain ⟨q1, q2⟩ := h8 _ _ _ c hgg hc'.symm
      exact ⟨(h7 _ _ he hj).2, q1, q2⟩
    · have hlt : j < es.length * k := by have := (List.getElem?_eq_some_iff.1 hj).1; simpa using this
      have hk0 : 0 < k := by rcases Nat.eq_zero_or_pos k with h | h; (rw [h] at hlt; omega); exact h
      simp [hlt] at hj
      subst hj
      have := (h7 (j / k) (j % k) (by rw [Nat.div_lt_iff_lt_mul hk0]; exact hlt) (Nat.mod_lt _ hk0)).1
      rwa [Nat.div_add_mod'] at this
end
end Go.Proofs.Ytfnonledcniojaa
