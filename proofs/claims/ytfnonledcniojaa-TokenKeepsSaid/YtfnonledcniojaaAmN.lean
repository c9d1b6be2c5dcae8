/- Each operation of the small machine stands for the program's operation: what makes rows, and stores. Conditions: none. -/
import Derived.Test.YtfnonledcniojaaAmM
import Derived.Laws.MakeOwn
import Derived.Lib.ConvBytes
namespace Go.Proofs.Ytfnonledcniojaa
open Go Go.RowKit
section
variable {P : Program} {G : Nat → Option (List AV)} {ρ : Rho} {w : World} {S O : Nat → Prop} {env : AEnv} {h : List ARow} {a : Act} {o : Oper} {v : AV} {h' : List ARow}

/-- A new row out of one list of cells. -/
theorem Heap.allocL (H : Heap ρ w S O h) (arr : Array Value) (ty : TypeId) (r : ARow) (lim : Nat) (vs : List Value) (hl : r.es.length ≤ lim) (hs : lim * r.k ≤ arr.size) (hlen : ∀ g ∈ r.es, g.length = r.k)
    (harr : ∀ i, i < vs.length → arr[i]? = vs[i]?) (hq : CellsP (CellQ ρ w S O r.flat) r.es.flatten vs) :
    Heap (upd ρ h.length (r.gen, some ⟨w.heap.size, 0, r.k, lim⟩)) (w.alloc (.cells arr ty)) S (fun b => O b ∨ b = w.heap.size) (h ++ [r]) := by
  refine H.alloc arr ty r lim hl hs hlen fun e j g c hg hc => ?_
  have hj : j < r.k := by have := (List.getElem?_eq_some_iff.1 hc).1; rwa [hlen g (List.mem_of_getElem? hg)] at this
  have hf := flatten_get hlen hg hj
  rw [hc] at hf
  have hlt : e * r.k + j < vs.length := by have := (List.getElem?_eq_some_iff.1 hf).1; rw [← hq.1]; exact this
  have hv := List.getElem?_eq_getElem hlt
  obtain ⟨q1, q2, q3⟩ := hq.2 _ _ _ hf hv
  exact ⟨vs[e * r.k + j], by rw [harr _ hlt, hv], q1, q2, q3⟩
/-- An operation that makes one row and answers with what stands for it. -/
theorem OpN.alloc {run : Result Next} {v : AV} {x : Value} (H : Heap ρ w S O h) (arr : Array Value) (ty : TypeId) (r : ARow) (lim : Nat) (vs : List Value) (hl : r.es.length ≤ lim) (hs : lim * r.k ≤ arr.size) (hlen : ∀ g ∈ r.es, g.length = r.k)
    (harr : ∀ i, i < vs.length → arr[i]? = vs[i]?) (hq : CellsP (CellQ ρ w S O r.flat) r.es.flatten vs) (hr : run = .ok (.value x) (w.alloc (.cells arr ty)))
    (hv : RepV (upd ρ h.length (r.gen, some ⟨w.heap.size, 0, r.k, lim⟩)) (w.alloc (.cells arr ty)) S (fun b => O b ∨ b = w.heap.size) v x) : OpN ρ w S O h run v (h ++ [r]) :=
  ⟨x, _, _, _, hr, AdvW.alloc w O _, fun b hb => Below.heap_alloc w _ b hb, upd_exact (H.none_ge (Nat.le_refl _)), upd_new (fun p hp => by cases hp; exact Nat.le_refl _), H.allocL arr ty r lim vs hl hs hlen harr hq, hv, upd_mono ρ _ (Nat.le_refl _), _, rfl⟩

theorem zero_of {t : TypeId} {zs : List AV} (hz : zeroIs P t zs = true) : ∃ i z, P.info? t = some i ∧ i.zero = some z ∧ chkConsts z.cells.toList zs = true := by
  unfold zeroIs at hz
  split at hz
  · rename_i i hi
    split at hz
    · rename_i z hz'; exact ⟨i, z, hi, hz', hz⟩
    · cases hz
  · cases hz
theorem ok_alloc {zero : List AV} (hop : chkOp P o.op (.alloc zero) = true) (R : Rel G ρ w S O env a) (H : Heap ρ w S O h) (he : aop G env h (.alloc zero) = some (v, h')) : OpN ρ w S O h ((execOp a.eval o).run P w) v h' := by
  simp only [aop, Option.some.injEq, Prod.mk.injEq] at he
  obtain ⟨rfl, rfl⟩ := he
  simp only [chkOp] at hop
  split at hop
  case h_2 => cases hop
  rename_i t heq
  obtain ⟨i, z, hi, hz, hc⟩ := zero_of hop
  have hq := consts_cells (ρ := ρ) (w := w) (S := S) (O := O) hc
  refine .alloc H z.cells t ⟨zero.length, 0, AV.stableL zero, [zero]⟩ 1 z.cells.toList (by simp) (by simp [hq.1]) (by simp) (fun i _ => by simp) (by simpa using hq.weak (fun _ => rfl)) (x := .pointer (some ⟨w.heap.size, 0, none⟩)) ?_
    (.ptr _ 0 0 _ 0 0 _ (upd_same ρ _ _) (Nat.le_refl _) (fun _ => ⟨_, rfl, by simp⟩))
  simp [execOp, heq, Instr.alloc, zeroValue, typeInfo, hi, hz, newVar, newRow]
theorem ok_box {m : Nat} {x : AOpd} (hop : chkOp P o.op (.box m x) = true) (R : Rel G ρ w S O env a) (H : Heap ρ w S O h) (he : aop G env h (.box m x) = some (v, h')) : OpN ρ w S O h ((execOp a.eval o).run P w) v h' := by
  obtain ⟨v0, h0, he⟩ := opt_bind_some.1 he
  obtain ⟨cs, hcs, he⟩ := opt_bind_some.1 he
  split at he
  case isFalse => cases he
  rename_i hm
  cases he
  simp only [chkOp] at hop
  split at hop
  case h_2 => cases hop
  rename_i t y heq
  obtain ⟨vs, h1, h2⟩ := cells_of (ev_rep hop R h0) hcs
  refine .alloc H vs.toArray t ⟨m, 0, AV.stableL cs, [cs]⟩ 1 vs (by simp) (by simp [← hm, h2.1]) (by simp [hm]) (fun i _ => by simp) (by simpa using h2) (x := .pointer (some ⟨w.heap.size, 0, none⟩)) ?_
    (.ptr _ 0 0 _ 0 0 _ (upd_same ρ _ _) (Nat.le_refl _) (fun _ => ⟨_, rfl, by simp⟩))
  simp [execOp, heq, Instr.box, newVar, newRow, h1]

/-! ### Literals -/
theorem foldl_set : ∀ (us : List Value) (k off : Nat) (arr : Array Value), off + k + us.length ≤ arr.size →
    (us.zipIdx k).foldl (fun cs p => cs.setIfInBounds (off + p.2) p.1) arr = (patchV (off + k) us arr.toList).toArray
  | [], k, off, arr, _ => by simp [patchV]
  | u :: us, k, off, arr, hl => by
    simp only [List.length_cons] at hl
    rw [List.zipIdx_cons, List.foldl_cons, foldl_set us (k + 1) off _ (by simp; omega)]
    congr 1
    apply List.ext_getElem?
    intro i
    rw [getElem?_patchV (by simp; omega), getElem?_patchV (by simp; omega)]
    simp only [Array.toList_setIfInBounds, List.getElem?_set, List.length_cons, Array.length_toList]
    by_cases h2 : off + k = i
    · subst h2
      rw [if_neg (by omega), if_pos rfl, if_pos (by omega), if_pos (by omega)]
      simp
    · by_cases h3 : off + (k + 1) ≤ i ∧ i < off + (k + 1) + us.length
      · rw [if_pos h3, if_pos (by omega)]
        rw [show i - (off + k) = (i - (off + (k + 1))) + 1 from by omega, List.getElem?_cons_succ]
      · rw [if_neg h3, if_neg h2, if_neg (by omega)]
theorem fill_step (place : Nat → Option (Nat × Nat)) (us vs : List Value) (i off m : Nat) (x : Value) (rest : List (Nat × Value)) (hx : x.cells = vs.toArray) (hp : place i = some (off, m)) (hm : vs.length = m) (hl : off + m ≤ us.length) :
    Instr.fill place us.toArray ((i, x) :: rest) = Instr.fill place (patchV off vs us).toArray rest := by
  rw [Instr.fill, hp, hx]
  simp only [List.size_toArray]
  rw [if_neg (by simp; omega)]
  rw [← Array.foldl_toList, show vs.toArray.zipIdx.toList = vs.zipIdx from by simp, foldl_set vs 0 off us.toArray (by simp; omega)]
  simp
theorem fill_run (place : Nat → Option (Nat × Nat)) : ∀ (ops : List (Nat × Operand)) (as : List (Nat × Nat × AOpd)) (ps : List (Nat × Nat × AV)) (zero cs : List AV) (us : List Value), chkParts place ops as = true → Rel G ρ w S O env a →
    (as.mapM fun (p : Nat × Nat × AOpd) => (aeval G env p.2.2).map fun v => (p.1, p.2.1, v)) = some ps → abuild zero ps = some cs → CellsP (CellQ ρ w S O false) zero us →
    ∃ us', Instr.fill place us.toArray (ops.map fun p => (p.1, a.eval p.2)) = some us'.toArray ∧ CellsP (CellQ ρ w S O false) cs us'
  | [], [], ps, zero, cs, us, _, _, hm, hb, hq => by
    simp at hm; subst hm
    cases hb
    exact ⟨us, rfl, hq⟩
  | (i, x) :: ops, (off, m, b) :: as, ps, zero, cs, us, hc, R, hm, hb, hq => by
    simp only [chkParts, Bool.and_eq_true, beq_iff_eq] at hc
    obtain ⟨⟨hp, hx⟩, hc⟩ := hc
    rw [List.mapM_cons] at hm
    obtain ⟨p1, hp1, hm⟩ := opt_bind_some.1 hm
    obtain ⟨u, hu, rfl⟩ := opt_map_some.1 hp1
    obtain ⟨ps', hps, hm⟩ := opt_bind_some.1 hm
    cases hm
    unfold abuild at hb
    obtain ⟨ds, hds, hb⟩ := opt_bind_some.1 hb
    split at hb
    case isFalse => cases hb
    rename_i hle
    obtain ⟨vs, h1, h2⟩ := cells_of (ev_rep hx R hu) hds
    have hvl : vs.length = m := by rw [← h2.1]; exact hle.1
    have hq2 := hq.patch (h2.weak (f' := false) (fun h => by cases h)) off
    obtain ⟨us', e1, e2⟩ := fill_run place ops as ps' _ cs (patchV off vs us) hc R hps hb hq2
    exact ⟨us', by rw [List.map_cons, fill_step place us vs i off m _ _ h1 hp hvl (by rw [← hq.1]; exact hle.2)]; exact e1, e2⟩
  | [], _ :: _, _, _, _, _, hc, _, _, _, _ => by cases hc
  | _ :: _, [], _, _, _, _, hc, _, _, _, _ => by cases hc
theorem rep_agg {cs : List AV} {us : List Value} (hq : CellsP (CellQ ρ w S O false) cs us) : RepV ρ w S O (.agg cs) (.agg us.toArray) :=
  .agg cs us hq.1 (fun u hu => hq.one u hu) fun i c v hc hv => (hq.2 i c v hc hv).2.1
theorem places_some : ∀ (l : List Field), (∀ f ∈ l, (P.info? f.type).isSome = true) → (l.mapM fun f => (P.info? f.type).map fun i => (f.offset, i.size)) = some (l.map fun f => (f.offset, P.cellsOf f.type))
  | [], _ => rfl
  | f :: l, hl => by
    obtain ⟨j, hj⟩ := Option.isSome_iff_exists.1 (hl f (by simp))
    rw [List.mapM_cons, places_some l (fun g hg => hl g (by simp [hg])), hj]
    simp [Program.cellsOf, hj]
theorem ok_build {zero : List AV} {as : List (Nat × Nat × AOpd)} (hop : chkOp P o.op (.build zero as) = true) (R : Rel G ρ w S O env a) (he : aop G env h (.build zero as) = some (v, h')) : FreeOk ρ w S O h ((execOp a.eval o).run P w) v h' := by
  obtain ⟨ps, hps, he⟩ := opt_bind_some.1 he
  obtain ⟨cs, hb, e⟩ := opt_map_some.1 he
  cases e
  simp only [chkOp] at hop
  split at hop
  case h_2 => cases hop
  rename_i t parts heq
  simp only [Bool.and_eq_true] at hop
  obtain ⟨hz, hop⟩ := hop
  obtain ⟨i, z, hi, hz, hc⟩ := zero_of hz
  have hq := (consts_cells (ρ := ρ) (w := w) (S := S) (O := O) hc).weak (f' := false) (fun h => by cases h)
  have hpm : (parts.map fun (i, x) => (i, a.eval x)).toList = parts.toList.map fun p => (p.1, a.eval p.2) := by simp
  split at hop
  · rename_i fs hu
    simp only [Bool.and_eq_true] at hop
    obtain ⟨us', e1, e2⟩ := fill_run _ parts.toList as ps zero cs z.cells.toList hop.2 R hps hb hq
    refine .pure (x := .agg us'.toArray) ?_ (rep_agg e2)
    have hb' : P.built t (parts.map fun (i, x) => (i, a.eval x)).toList = some us'.toArray := by
      unfold Program.built
      simp only [hi, hu, hz, places_some fs.toList (fun f hf => Array.all_eq_true_iff_forall_mem.1 hop.1 f (by simpa using hf)), hpm]
      rw [← e1]
      congr 1
      funext i
      simp
    simp only [execOp, heq, Sem.run_bind, run_build w t _ _ hb', Result.andThen_ok, Sem.run_pure]
  · rename_i n e hu
    simp only [Bool.and_eq_true] at hop
    obtain ⟨us', e1, e2⟩ := fill_run _ parts.toList as ps zero cs z.cells.toList hop.2 R hps hb hq
    obtain ⟨j, hj⟩ := Option.isSome_iff_exists.1 hop.1
    have hce : P.cellsOf e = j.size := by simp [Program.cellsOf, hj]
    refine .pure (x := .agg us'.toArray) ?_ (rep_agg e2)
    have hb' : P.built t (parts.map fun (i, x) => (i, a.eval x)).toList = some us'.toArray := by
      unfold Program.built
      simp only [hi, hu, hz, hj, hpm]
      rw [← e1, hce]
    simp only [execOp, heq, Sem.run_bind, run_build w t _ _ hb', Result.andThen_ok, Sem.run_pure]
  · cases hop
theorem fill2_run (k : Nat) : ∀ (ops : List (Nat × Operand)) (as : List (Nat × AOpd)) (ps : List (Nat × AV)) (es es' : List (List AV)) (us : List Value), chkParts2 ops as = true → Rel G ρ w S O env a →
    (as.mapM fun (p : Nat × AOpd) => (aeval G env p.2).map fun v => (p.1, v)) = some ps → afill k es ps = some es' → (∀ g ∈ es, g.length = k) → CellsP (CellQ ρ w S O false) es.flatten us →
    ∃ us', Instr.fill (fun i => some (i * k, k)) us.toArray (ops.map fun p => (p.1, a.eval p.2)) = some us'.toArray ∧ CellsP (CellQ ρ w S O false) es'.flatten us' ∧ (∀ g ∈ es', g.length = k) ∧ es'.length = es.length
  | [], [], ps, es, es', us, _, _, hm, hb, hl, hq => by
    simp at hm; subst hm
    cases hb
    exact ⟨us, rfl, hq, hl, rfl⟩
  | (i, x) :: ops, (i', b) :: as, ps, es, es', us, hc, R, hm, hb, hl, hq => by
    simp only [chkParts2, Bool.and_eq_true, beq_iff_eq] at hc
    obtain ⟨⟨rfl, hx⟩, hc⟩ := hc
    rw [List.mapM_cons] at hm
    obtain ⟨p1, hp1, hm⟩ := opt_bind_some.1 hm
    obtain ⟨u, hu, rfl⟩ := opt_map_some.1 hp1
    obtain ⟨ps', hps, hm⟩ := opt_bind_some.1 hm
    cases hm
    unfold afill at hb
    obtain ⟨ds, hds, hb⟩ := opt_bind_some.1 hb
    split at hb
    case isFalse => cases hb
    rename_i hle
    obtain ⟨vs, h1, h2⟩ := cells_of (ev_rep hx R hu) hds
    have hvl : vs.length = k := by rw [← h2.1]; exact hle.1
    have hfl := flatten_len hl
    have hq2 := hq.patch (h2.weak (f' := false) (fun h => by cases h)) (i * k)
    rw [← flatten_set_whole hl (List.getElem?_eq_getElem hle.2) hle.1] at hq2
    have hl2 : ∀ g ∈ es.set i ds, g.length = k := fun g hg => (List.mem_or_eq_of_mem_set hg).elim (hl g) (fun e => e ▸ hle.1)
    obtain ⟨us', e1, e2, e3, e4⟩ := fill2_run k ops as ps' _ es' (patchV (i * k) vs us) hc R hps hb hl2 hq2
    have hin : i * k + k ≤ us.length := by
      rw [← hq.1, hfl]
      have := Nat.mul_le_mul_right k (show i + 1 ≤ es.length from hle.2)
      rw [Nat.add_mul] at this; omega
    exact ⟨us', by rw [List.map_cons, fill_step (fun i => some (i * k, k)) us vs i (i * k) k _ _ h1 rfl hvl hin]; exact e1, e2, e3, by rw [e4, List.length_set]⟩
  | [], _ :: _, _, _, _, _, hc, _, _, _, _, _ => by cases hc
  | _ :: _, [], _, _, _, _, hc, _, _, _, _, _ => by cases hc
/-- The zero cells of a new row. -/
theorem zeros_cells {zs : List AV} {z : Array Value} {f : Bool} (hq : CellsP (CellQ ρ w S O f) zs z.toList) : ∀ n, CellsP (CellQ ρ w S O f) (List.replicate n zs).flatten (List.replicate n z.toList).flatten
  | 0 => by simpa using CellsP.nil
  | n + 1 => by rw [List.replicate_succ, List.replicate_succ, List.flatten_cons, List.flatten_cons]; exact hq.append (zeros_cells hq n)
theorem made_get (z : Array Value) : ∀ (n i : Nat), i < n * z.size → (List.replicate n z.toList).flatten[i]? = some (z[i % z.size]!)
  | 0, i, h => by omega
  | n + 1, i, h => by
    rw [List.replicate_succ, List.flatten_cons]
    by_cases hi : i < z.size
    · rw [List.getElem?_append_left (by simpa using hi), Nat.mod_eq_of_lt hi]
      simp [hi]
    · have h' : i < n * z.size + z.size := by rw [Nat.add_mul] at h; omega
      rw [List.getElem?_append_right (by simp; omega), Array.length_toList, made_get z n (i - z.size) (by omega), ← Nat.mod_eq_sub_mod (by omega)]
theorem made_eq (z : Array Value) (n : Nat) : (List.replicate n z.toList).flatten.toArray = (Array.range (n * z.size)).map (z[· % z.size]!) := by
  apply Array.ext'
  apply List.ext_getElem?
  intro i
  by_cases hi : i < n * z.size
  · rw [List.toList_toArray, made_get z n i hi]
    simp [hi]
  · rw [List.getElem?_eq_none (by simp; omega), List.getElem?_eq_none (by simp; omega)]
theorem buildSlice_run {t e : TypeId} {n k : Nat} {parts : Array (Nat × Operand)} {i : TypeInfo} {z : Value} {us' : List Value} (hu : P.underlying t = some (.slice e)) (hi : P.info? e = some i) (hk : i.size = k) (hz : i.zero = some z) (hzk : z.cells.size = k)
    (hn : n * k ≤ 16777216) (hf : Instr.fill (fun i => some (i * k, k)) (List.replicate n z.cells.toList).flatten.toArray (parts.toList.map fun p => (p.1, a.eval p.2)) = some us'.toArray) :
    (Instr.buildSlice t n (parts.map fun (i, x) => (i, a.eval x))).run P w = .ok (.slice (some ⟨w.heap.size, 0, none⟩) n n) (w.alloc (.cells us'.toArray e)) := by
  have hpm : (parts.map fun (i, x) => (i, a.eval x)).toList = parts.toList.map fun p => (p.1, a.eval p.2) := by simp
  have hsz : (sizeOf e).run P w = .ok k w := by simp [sizeOf, typeInfo, hi, hk]
  have hbig : ¬ (n * k > 2 ^ 24) := by omega
  by_cases h0 : n * k = 0
  · have e0 : (List.replicate n z.cells.toList).flatten = [] := List.eq_nil_of_length_eq_zero (by simp [hzk]; simpa using h0)
    rw [e0] at hf
    have e1 : (Array.range 0).map (fun x => (#[] : Array Value)[x % (#[] : Array Value).size]!) = #[] := by simp
    simp only [Instr.buildSlice, Sem.run_bind, run_underlying hu, Result.andThen_ok, hsz, h0, if_true, Sem.run_pure, hpm, Sem.run_ite, hbig, if_false]
    rw [e1, hf]
    simp [newRow]
  · rw [made_eq, hzk] at hf
    have hz' : (zeroValue e).run P w = .ok z w := by simp [zeroValue, typeInfo, hi, hz]
    simp only [Instr.buildSlice, Sem.run_bind, run_underlying hu, Result.andThen_ok, hsz, h0, if_false, Sem.run_pure, hpm, Sem.run_ite, hbig, hz']
    rw [hzk, hf]
    simp [newRow]
theorem mk_spec {t : TypeId} {n k : Nat} {zero : List AV} {parts : Array (Nat × Operand)} {as : List (Nat × AOpd)} {ps : List (Nat × AV)} {es : List (List AV)} (R : Rel G ρ w S O env a) (hn : n * k ≤ 16777216)
    (hop : (match P.underlying t with | some (.slice e) => sizeIs P e k && zeroIs P e zero && zero.length == k && chkParts2 parts.toList as | _ => false) = true)
    (hps : (as.mapM fun (p : Nat × AOpd) => (aeval G env p.2).map fun v => (p.1, v)) = some ps) (hf : afill k (List.replicate n zero) ps = some es) :
    ∃ e us', (Instr.buildSlice t n (parts.map fun (i, x) => (i, a.eval x))).run P w = .ok (.slice (some ⟨w.heap.size, 0, none⟩) n n) (w.alloc (.cells us'.toArray e)) ∧ CellsP (CellQ ρ w S O (stableLL es)) es.flatten us' ∧
      (∀ g ∈ es, g.length = k) ∧ es.length = n := by
  split at hop
  case h_2 => cases hop
  rename_i e hu
  simp only [Bool.and_eq_true, beq_iff_eq] at hop
  obtain ⟨⟨⟨h1, h2⟩, h3⟩, h4⟩ := hop
  obtain ⟨i, z, hi, hz, hc⟩ := zero_of h2
  obtain ⟨i', hi', hk⟩ := info_of_size h1
  obtain rfl := Option.some.inj (hi.symm.trans hi')
  have hq := (consts_cells (ρ := ρ) (w := w) (S := S) (O := O) hc).weak (f' := false) (fun h => by cases h)
  have hzk : z.cells.size = k := by have := hq.1; simp at this; omega
  obtain ⟨us', e1, e2, e3, e4⟩ := fill2_run k parts.toList as ps _ es _ h4 R hps hf (fun g hg => by rw [List.eq_of_mem_replicate hg]; exact h3) (zeros_cells hq n)
  refine ⟨e, us', buildSlice_run hu hi hk hz hzk hn e1, ⟨e2.1, fun i c v hcc hv => ?_⟩, e3, by rw [e4, List.length_replicate]⟩
  obtain ⟨q1, q2, _⟩ := e2.2 i c v hcc hv
  refine ⟨q1, q2, fun hs => rv_stable q2 ?_⟩
  obtain ⟨g, hg, hcg⟩ := List.mem_flatten.1 (List.mem_of_getElem? hcc)
  obtain ⟨j, hj⟩ := List.mem_iff_getElem?.1 hcg
  exact stableL_at (List.all_eq_true.1 hs g hg) j c hj
theorem ok_mkslice {k n : Nat} {zero : List AV} {as : List (Nat × AOpd)} (hop : chkOp P o.op (.mkslice k n zero as) = true) (R : Rel G ρ w S O env a) (H : Heap ρ w S O h) (he : aop G env h (.mkslice k n zero as) = some (v, h')) : OpN ρ w S O h ((execOp a.eval o).run P w) v h' := by
  obtain ⟨ps, hps, he⟩ := opt_bind_some.1 he
  obtain ⟨es, hf, e⟩ := opt_map_some.1 he
  cases e
  simp only [chkOp] at hop
  split at hop
  case h_2 => cases hop
  rename_i t n' parts heq
  simp only [Bool.and_eq_true, beq_iff_eq, decide_eq_true_eq] at hop
  obtain ⟨⟨rfl, hn⟩, hop⟩ := hop
  obtain ⟨e, us', hrun, hq, hl, hlen⟩ := mk_spec R hn hop hps hf
  refine .alloc H us'.toArray e ⟨k, 0, stableLL es, es⟩ n us' (by simp [hlen]) (by simp [← hq.1, flatten_len hl, hlen]) hl (fun i _ => by simp) hq (x := .slice (some ⟨w.heap.size, 0, none⟩) n n) (by simp [execOp, heq, hrun])
    (.own _ 0 0 _ 0 n n _ n (upd_same ρ _ _) (Nat.le_refl _) (Nat.le_refl _) (Nat.le_refl _) (fun _ => rfl) (fun _ => .inr ⟨_, rfl, by simp, by simp⟩))
/-- A new block that is only read from now on. -/
theorem OpN.frozen {run : Result Next} {arr : Array Value} {ty : TypeId} {k : Nat} {es : List (List AV)} {us : List Value} {full : Bool} {cap : Nat} (H : Heap ρ w S O h) (hr : run = .ok (.value (.slice (some ⟨w.heap.size, 0, none⟩) es.length cap)) (w.alloc (.cells arr ty)))
    (hl : ∀ g ∈ es, g.length = k) (h1 : es.length ≤ cap) (h2 : full = true → cap = es.length) (harr : ∀ i, i < us.length → arr[i]? = us[i]?) (hq : CellsP (CellQ ρ w S O true) es.flatten us) : OpN ρ w S O h run (.data false k es full) h := by
  have hA := AdvW.alloc' w O (.cells arr ty)
  have hnew : ¬ (S w.heap.size ∨ O w.heap.size) := fun hb => by have := H.bd _ hb; omega
  have hql : us.length = es.length * k := by rw [← hq.1, flatten_len hl]
  refine ⟨_, _, ρ, O, hr, hA, fun b hb => Below.heap_alloc w _ b hb, fun _ _ h => h, fun _ _ _ h => .inl h, ?_, ?_, fun _ _ h => h, [], by simp⟩
  · exact H.step (.refl ρ) hA (fun b hb => by have := H.bd b (.inr hb); simp; omega) (fun id g pl hid => .inl ⟨hid, rfl, fun p hp => by
      subst hp
      obtain ⟨r, _, _, hR⟩ := H.row id g _ hid
      exact Below.heap_alloc w _ _ (RowRep.lt hR)⟩) H.inj
  · refine .s (.data k es full w.heap.size 0 cap (fun e j => us.getD (e * k + j) undef) h1 h2 hl hnew (by simp) (fun e' j he' hj => ?_) fun e' j g c hg hc => ?_)
    · have hlt : e' * k + j < us.length := by
        rw [hql]
        have := Nat.mul_le_mul_right k (show e' + 1 ≤ es.length from he')
        rw [Nat.add_mul] at this; omega
      rw [Nat.zero_add, World.cell?_alloc_new, harr _ hlt]
      refine ⟨by simp [hlt], hq.one _ ?_⟩
      simp [hlt]
    · have hj : j < k := by have := (List.getElem?_eq_some_iff.1 hc).1; rwa [hl g (List.mem_of_getElem? hg)] at this
      have hff := flatten_get hl hg hj
      rw [hc] at hff
      have hlt : e' * k + j < us.length := by have := (List.getElem?_eq_some_iff.1 hff).1; rw [← hq.1]; exact this
      have hv := List.getElem?_eq_getElem hlt
      have := (hq.2 _ _ _ hff hv).2.2 rfl
      simpa [hlt] using this.adv hA
theorem ok_mkdata {k n : Nat} {zero : List AV} {as : List (Nat × AOpd)} (hop : chkOp P o.op (.mkdata k n zero as) = true) (R : Rel G ρ w S O env a) (H : Heap ρ w S O h) (he : aop G env h (.mkdata k n zero as) = some (v, h')) : OpN ρ w S O h ((execOp a.eval o).run P w) v h' := by
  obtain ⟨ps, hps, he⟩ := opt_bind_some.1 he
  obtain ⟨es, hf, he⟩ := opt_bind_some.1 he
  split at he
  case isFalse => cases he
  rename_i hst
  cases he
  simp only [chkOp] at hop
  split at hop
  case h_2 => cases hop
  rename_i t n' parts heq
  simp only [Bool.and_eq_true, beq_iff_eq, decide_eq_true_eq] at hop
  obtain ⟨⟨rfl, hn⟩, hop⟩ := hop
  obtain ⟨e, us', hrun, hq, hl, hlen⟩ := mk_spec R hn hop hps hf
  have hr : (execOp a.eval o).run P w = .ok (.value (.slice (some ⟨w.heap.size, 0, none⟩) es.length n)) (w.alloc (.cells us'.toArray e)) := by rw [hlen]; simp [execOp, heq, hrun]
  exact OpN.frozen (us := us') H hr hl (by omega) (fun _ => by omega) (fun i _ => by simp) (by rw [hst] at hq; exact hq)
end
end Go.Proofs.Ytfnonledcniojaa
