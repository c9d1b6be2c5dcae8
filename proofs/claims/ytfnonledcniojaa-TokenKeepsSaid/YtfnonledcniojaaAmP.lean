/- Each operation of the small machine stands for the program's operation: append, copy, bytes. Conditions: none. -/
import Derived.Test.YtfnonledcniojaaAmO
namespace Go.Proofs.Ytfnonledcniojaa
open Go Go.RowKit
section
variable {P : Program} {G : Nat → Option (List AV)} {ρ : Rho} {w : World} {S O : Nat → Prop} {env : AEnv} {h : List ARow} {a : Act} {o : Oper} {v : AV} {h' : List ARow}

theorem CellsP.take_len {Q : AV → Value → Prop} {cs : List AV} {vs : List Value} (h : CellsP Q cs vs) (n : Nat) : CellsP Q (cs.take n) (vs.take n) := h.take n
theorem ok_copy {k : Nat} {x y : AOpd} (hop : chkOp P o.op (.copy k x y) = true) (R : Rel G ρ w S O env a) (H : Heap ρ w S O h) (he : aop G env h (.copy k x y) = some (v, h')) : OpOk ρ w S O h ((execOp a.eval o).run P w) v h' := by
  obtain ⟨vx, hx0, he⟩ := opt_bind_some.1 he
  obtain ⟨vy, hy0, he⟩ := opt_bind_some.1 he
  obtain ⟨⟨ys, fl⟩, hg, he⟩ := opt_bind_some.1 he
  cases vx with
  | own id g s l c =>
    obtain ⟨r, hrow, he⟩ := opt_bind_some.1 he
    split at he
    case isFalse => cases he
    rename_i hc
    cases he
    simp only [chkOp] at hop
    split at hop
    case h_2 => cases hop
    rename_i args ts heq
    split at hop
    case h_2 => cases hop
    rename_i x' y' t tl ha ht
    simp only [Bool.and_eq_true] at hop
    obtain ⟨⟨hx, hy⟩, hop⟩ := hop
    split at hop
    case h_2 => cases hop
    rename_i e hu
    have e1 : args = #[x', y'] := by apply Array.ext'; simp [ha]
    subst e1
    have ets : ts[0]? = some t := by rw [← Array.getElem?_toList, ht]; rfl
    obtain ⟨g', pl, ad, cap, hz, hρ, hle, hlc, _, has, hpl⟩ := rv_own (ev_rep hx R hx0)
    obtain ⟨hg', his⟩ := H.at hρ hrow
    obtain ⟨ad2, cap2, us, hz2, hlc2, hyl, hq, hcells⟩ := groups_cells H (ev_rep hy R hy0) hg
    have hn : Nat.min ys.length l = min ys.length l := rfl
    have hul : us.length = ys.length * k := by rw [← hq.1, flatten_len hyl]
    have htl : (us.take (min ys.length l * k)).length = min ys.length l * k := by
      rw [List.length_take, hul]; exact Nat.min_eq_left (Nat.mul_le_mul_right _ (Nat.min_le_left _ _))
    have hfc := firstCells_run (P := P) (w := w) (ad := ad2) (len := ys.length) (cap := cap2) (k := k) (n := min ys.length l) (us := us.take (min ys.length l * k)) htl (by
      rcases hcells with rfl | ⟨b, off, rfl, hc⟩
      · left; simp
      · right
        exact ⟨b, off, rfl, fun j v hj => hc j v (by rw [List.getElem?_take] at hj; split at hj; exact hj; cases hj)⟩)
    have hq2 : CellsP (CellQ ρ w S O (r.flat && fl)) ((ys.take (min ys.length l)).flatten) (us.take (min ys.length l * k)) := by
      rw [flatten_take hyl]
      exact (hq.take _).weak (fun hf => by simp at hf; exact hf.2)
    have run : ∀ w', (match ad with | some a => storeCells a (us.take (min ys.length l * k)) | none => pure ()).run P w = .ok () w' → (execOp a.eval o).run P w = .ok (.value (.int .i64 (min ys.length l : Nat))) w' := fun w' hst => by
      have : (Builtin.copy_ ts o.type #[.slice ad l cap, .slice ad2 ys.length cap2]).run P w = .ok (goInt (min ys.length l : Nat)) w' := by
        simp only [Builtin.copy_, ets]
        cases ad with
        | none =>
          cases hst
          simp [run_underlying hu, Builtin.lenOf, sizeOf_run hop, hn, hfc]
        | some ad =>
          simp [run_underlying hu, Builtin.lenOf, sizeOf_run hop, hn, hfc, hst]
      simp [execOp, heq, resolve, invoke, builtin, hz, hz2, this, goInt]
    by_cases h0 : min ys.length l = 0
    · have hr : (⟨r.k, r.gen, r.flat && fl, r.es.take s ++ ys.take (min ys.length l) ++ r.es.drop (s + min ys.length l)⟩ : ARow) = { r with flat := r.flat && fl } := by rw [h0]; simp
      rw [hr]
      refine ⟨_, w, ρ, O, .inl (run w ?_), .refl w O, .refl ρ, H.reflat hrow _ (fun hf => by simp at hf; exact hf.1), .s (.int _ _), fun _ _ h => h⟩
      rw [h0]
      cases ad <;> simp [storeCells]
    · rcases hpl (by omega) with hc0 | ⟨p, rfl, rfl, hlim⟩
      · omega
      have hk : p.k = r.k := RowRep.k his
      have hlt : (ys.take (min ys.length l)).length = min ys.length l := by simp
      obtain ⟨q1, q2, q3⟩ := H.splice hρ hrow (s := s) (ys := ys.take (min ys.length l)) (fl := r.flat && fl) (by rw [hlt]; omega) (fun g hg => by rw [hc.2.1]; exact hyl g (List.mem_of_mem_take hg)) (fun hf => by simp at hf; exact hf.1) hq2
      rw [hlt] at q1
      refine ⟨_, _, ρ, O, .inl (run _ ?_), q2, .refl ρ, q1, .s (.int _ _), fun _ _ h => h⟩
      rw [← hk] at q3 ⊢
      exact storeCells_run q3 hq2.one
  | _ => cases he

/-! ### append -/
theorem append_room {ts : Array TypeId} {ty t u e : TypeId} {i : TypeInfo} {u2 : TypeId} {ad ad2 : Option Addr} {l cap n cap2 : Nat} {news : List Value} {w' : World} (ht : P.underlying t = some (.slice e)) (hts : ts = #[t, u]) (hu : P.underlying u = some (.slice u2))
    (hi : P.info? e = some i) (hfc : (Builtin.firstCells i.size n (.slice ad2 n cap2)).run P w = .ok news.toArray w) (hroom : l + n ≤ cap)
    (hst : (match ad with | some a => storeCells (a.add (l * i.size)) news | none => pure ()).run P w = .ok () w') :
    (Builtin.append_ ts ty #[.slice ad l cap, .slice ad2 n cap2]).run P w = .ok (.slice ad (l + n) cap) w' := by
  subst hts
  cases ad with
  | none =>
    cases hst
    simp [Builtin.append_, run_underlying ht, run_underlying hu, sizeOf, typeInfo, hi, Builtin.lenOf, hroom, hfc]
  | some ad =>
    simp [Builtin.append_, run_underlying ht, run_underlying hu, sizeOf, typeInfo, hi, Builtin.lenOf, hroom, hfc, hst]
theorem append_grow {ts : Array TypeId} {ty t u e : TypeId} {i : TypeInfo} {z : Value} {u2 : TypeId} {ad ad2 : Option Addr} {l cap n cap2 : Nat} {olds news : List Value} (ht : P.underlying t = some (.slice e)) (hts : ts = #[t, u]) (hu : P.underlying u = some (.slice u2))
    (hi : P.info? e = some i) (hz : i.zero = some z) (hb0 : 0 < i.bytes) (hfo : (Builtin.firstCells i.size l (.slice ad l cap)).run P w.drew = .ok olds.toArray w.drew) (hfc : (Builtin.firstCells i.size n (.slice ad2 n cap2)).run P w.drew = .ok news.toArray w.drew)
    (hroom : cap < l + n) (hfit : (l + n) * i.bytes ≤ 140737488355328) :
    (Builtin.append_ ts ty #[.slice ad l cap, .slice ad2 n cap2]).run P w = .ok (.slice (some ⟨w.heap.size, 0, none⟩) (l + n) (grownCap w (l + n) cap e))
      (w.drew.alloc (.cells (olds.toArray ++ news.toArray ++ Builtin.zeroCells z.cells (grownCap w (l + n) cap e - (l + n))) e)) := by
  subst hts
  have hn : ¬ (l + n ≤ cap) := by omega
  have h48 := growslice_fits hroom hfit
  have h48' : ¬ (281474976710656 < Builtin.nextslicecap (l + n) cap * i.bytes) := by omega
  have hb1 : (l + n) * 1 ≤ (l + n) * i.bytes := Nat.mul_le_mul_left _ hb0
  have h63' : ¬ (9223372036854775807 < ((l : Int) + (n : Int))) := by omega
  have hb2 : i.bytes ≠ 0 := by omega
  rw [Array.append_assoc]
  simp [Builtin.append_, run_underlying ht, run_underlying hu, sizeOf, typeInfo, zeroValue, hi, hz, Builtin.lenOf, hn, h63', h48', Question.forced, hfc, hfo, newRow, grownCap, hb2]
theorem Heap.drew (H : Heap ρ w S O h) : Heap ρ w.drew S O h := H.step (.refl ρ) (.drew w O) (fun b hb => H.bd b (.inr hb)) (fun _ _ _ hid => .inl ⟨hid, rfl, fun _ _ => rfl⟩) H.inj
/-- What append's check tells. -/
theorem append_chk {k bytes : Nat} {x y : AOpd} (hop : chkOp P o.op (.append k bytes x y) = true) : ∃ x' y' t u e i z u2 ts, o.op = .call ⟨.builtin .append, #[x', y'], ts⟩ ∧ ts = #[t, u] ∧ chkOpd x' x = true ∧ chkOpd y' y = true ∧
    P.underlying t = some (.slice e) ∧ P.underlying u = some (.slice u2) ∧ P.info? e = some i ∧ i.size = k ∧ i.bytes = bytes ∧ 0 < k ∧ 0 < bytes ∧ i.zero = some z ∧ z.cells.size = k := by
  simp only [chkOp] at hop
  split at hop
  case h_2 => cases hop
  rename_i args ts heq
  split at hop
  case h_2 => cases hop
  rename_i x' y' t u ha ht
  have e1 : args = #[x', y'] := by apply Array.ext'; simp [ha]
  have e2 : ts = #[t, u] := by apply Array.ext'; simp [ht]
  subst e1
  simp only [Bool.and_eq_true] at hop
  obtain ⟨⟨⟨hx, hy⟩, hus⟩, hop⟩ := hop
  unfold isSl at hus
  split at hus
  case h_2 => cases hus
  rename_i u2 hu
  split at hop
  case h_2 => cases hop
  rename_i e htu
  split at hop
  case h_2 => cases hop
  rename_i i hi
  simp only [Bool.and_eq_true, beq_iff_eq, decide_eq_true_eq] at hop
  obtain ⟨⟨⟨⟨h1, h2⟩, h3⟩, h4⟩, h5⟩ := hop
  split at h5
  case h_2 => cases h5
  rename_i z hz
  exact ⟨x', y', t, u, e, i, z, u2, ts, heq, e2, hx, hy, htu, hu, hi, h1, h2, h3, h4, hz, by simpa using h5⟩
theorem chk_appendD (op : Op) (k bytes : Nat) (x y : AOpd) : chkOp P op (.appendD k bytes x y) = chkOp P op (.append k bytes x y) := rfl
/-- The new block of a slice that has grown. -/
theorem grow_cells {olds news : List Value} {cs ds : List AV} {fl : Bool} (h1 : CellsP (CellQ ρ w S O fl) cs olds) (h2 : CellsP (CellQ ρ w S O fl) ds news) (rest : Array Value) :
    CellsP (CellQ ρ w S O fl) (cs ++ ds) (olds ++ news) ∧ ∀ i, i < (olds ++ news).length → (olds.toArray ++ news.toArray ++ rest)[i]? = (olds ++ news)[i]? := by
  refine ⟨h1.append h2, fun i hi => ?_⟩
  rw [Array.getElem?_append_left (by simpa using hi)]
  rw [← Array.getElem?_toList]
  simp
/-- A row behind an append that has grown: it lies in a new block. -/
theorem Heap.regrow {id : Nat} {x : Nat × Option Pl} (H : Heap ρ w S O h) (hx : ∀ g pl, ρ id = some (g, pl) → g < x.1) (hid : id ≤ h.length) (arr : Array Value) (ty : TypeId) (r : ARow) (lim : Nat) (vs : List Value) (hxe : x = (r.gen, some ⟨w.heap.size, 0, r.k, lim⟩))
    (hl : r.es.length ≤ lim) (hs : lim * r.k ≤ arr.size) (hlen : ∀ g ∈ r.es, g.length = r.k) (harr : ∀ i, i < vs.length → arr[i]? = vs[i]?) (hq : CellsP (CellQ ρ w S O r.flat) r.es.flatten vs) (h' : List ARow)
    (hh : h'[id]? = some r) (hho : ∀ i, i ≠ id → i < h.length → h'[i]? = h[i]?) :
    Heap (upd ρ id x) (w.alloc (.cells arr ty)) S (fun b => O b ∨ b = w.heap.size) h' ∧ Ext ρ (upd ρ id x) := by
  have he : Ext ρ (upd ρ id x) := fun i g pl hi => by
    by_cases e : i = id
    · subst e
      exact ⟨x.1, x.2, upd_same ρ _ _, Nat.le_of_lt (hx g pl hi), fun e => absurd e (Nat.ne_of_lt (hx g pl hi))⟩
    · exact ⟨g, pl, by rw [upd_ne ρ _ e]; exact hi, Nat.le_refl _, fun _ => rfl⟩
  have ha := AdvW.alloc w O (.cells arr ty)
  refine ⟨H.step he ha (fun b hb => ?_) (fun i g pl hi => ?_) (fun i i' g g' p p' h1 h2 hb => ?_), he⟩
  · rcases hb with hb | rfl
    · have := H.bd b (.inr hb); simp; omega
    · simp
  · by_cases e : i = id
    · subst e
      rw [upd_same] at hi
      rw [hxe] at hi
      cases hi
      exact .inr ⟨r, hh, rfl, RowRep.ofFlat (vs := vs) rfl hl (.inr rfl) hlen (heap_alloc_new _ _) (by simpa using hs) ⟨Nat.le_refl _, fun j _ => by omega⟩ (fun i hi => by simpa using harr i hi) (hq.adv he ha)⟩
    · rw [upd_ne ρ _ e] at hi
      exact .inl ⟨hi, hho i e (H.lt hi), fun p hp => by
        subst hp
        obtain ⟨r', _, _, hR⟩ := H.row i g _ hi
        exact Below.heap_alloc w _ _ (RowRep.lt hR)⟩
  · have old : ∀ {j g q}, ρ j = some (g, some q) → q.b < w.heap.size := fun {j g q} hj => by
      obtain ⟨r', _, _, hR⟩ := H.row j g _ hj
      exact RowRep.lt hR
    by_cases e : i = id
    · by_cases e' : i' = id
      · omega
      · subst e
        rw [upd_same, hxe] at h1
        rw [upd_ne ρ _ e'] at h2
        cases h1
        have := old h2
        simp at hb; omega
    · rw [upd_ne ρ _ e] at h1
      by_cases e' : i' = id
      · subst e'
        rw [upd_same, hxe] at h2
        cases h2
        have := old h1
        simp at hb; omega
      · rw [upd_ne ρ _ e'] at h2
        exact H.inj i i' g g' p p' h1 h2 hb
/-- A row behind an append that had room: the row lies where it lay, and goes on. -/
theorem Heap.reroom {id g : Nat} {p : Pl} {r : ARow} {s l cap : Nat} {ys : List (List AV)} {us : List Value} {fl : Bool} (H : Heap ρ w S O h) (hρ : ρ id = some (g, some p)) (hrow : h[id]? = some r) (hs : s + l ≤ r.es.length) (hcap : s + cap ≤ p.lim)
    (hln : l + ys.length ≤ cap) (hyl : ∀ g ∈ ys, g.length = r.k) (hf : fl = true → r.flat = true) (hq : CellsP (CellQ ρ w S O fl) ys.flatten us) :
    Heap (upd ρ id (g + 1, some ⟨p.b, p.base + s * r.k, r.k, cap⟩)) (w.setCells p.b (p.base + (s + l) * r.k) us) S O (h.set id ⟨r.k, g + 1, fl, (r.es.drop s).take l ++ ys⟩) ∧ Ext ρ (upd ρ id (g + 1, some ⟨p.b, p.base + s * r.k, r.k, cap⟩)) ∧
      AdvW w O (w.setCells p.b (p.base + (s + l) * r.k) us) O ∧ w.there p.b (p.base + (s + l) * r.k) us.length := by
  obtain ⟨hg, his⟩ := H.at hρ hrow
  have R : RowRep ρ w S O r p := his
  obtain ⟨arr, ty, lo, hi, us0, h1, h2, h3, h4, h5⟩ := R.flat
  have hA := AdvW.setCells w R.own (p.base + (s + l) * r.k) us
  have hfl := flatten_len R.len
  have hul : us0.length = r.es.length * r.k := by rw [← h5.1, hfl]
  have hyf : us.length = ys.length * r.k := by rw [← hq.1, flatten_len hyl]
  have hk := R.k
  have m1 : (s + cap) * r.k ≤ p.lim * r.k := Nat.mul_le_mul_right _ hcap
  have m2 : (l + ys.length) * r.k ≤ cap * r.k := Nat.mul_le_mul_right _ hln
  have m3 : (s + l) * r.k ≤ r.es.length * r.k := Nat.mul_le_mul_right _ hs
  rw [Nat.add_mul] at m1 m2
  have m4 : (s + l) * r.k = s * r.k + l * r.k := Nat.add_mul _ _ _
  rw [hk] at h2
  have hblk := setCells_block us p.b (p.base + (s + l) * r.k) w arr ty (lo, hi) h1 (by omega)
  have he : Ext ρ (upd ρ id (g + 1, some ⟨p.b, p.base + s * r.k, r.k, cap⟩)) := fun i g0 pl hi => by
    by_cases e : i = id
    · subst e
      rw [hρ] at hi
      cases hi
      exact ⟨_, _, upd_same ρ _ _, Nat.le_succ _, fun e => by omega⟩
    · exact ⟨g0, pl, by rw [upd_ne ρ _ e]; exact hi, Nat.le_refl _, fun _ => rfl⟩
  refine ⟨H.step he hA (fun b hb => ?_) (fun id' g' pl' hid => ?_) (fun i i' g1 g2 p1 p2 q1 q2 hb => ?_), he, hA, fun j hj => ?_⟩
  · rw [setCells_size]; exact H.bd b (.inr hb)
  · by_cases hii : id' = id
    · subst hii
      rw [upd_same] at hid
      cases hid
      refine .inr ⟨⟨r.k, g + 1, fl, (r.es.drop s).take l ++ ys⟩, by rw [List.getElem?_set_self (List.getElem?_eq_some_iff.1 hrow).1], rfl, ?_⟩
      have e5 := ((((h5.weak hf).drop (s * r.k)).take (l * r.k)).append hq).adv he hA
      have e6 : ((r.es.drop s).take l ++ ys).flatten = (r.es.flatten.drop (s * r.k)).take (l * r.k) ++ ys.flatten := by
        rw [List.flatten_append, flatten_take (fun g hg => R.len g (List.mem_of_mem_drop hg)), flatten_drop R.len]
      rw [← e6] at e5
      have hll : ((us0.drop (s * r.k)).take (l * r.k)).length = l * r.k := by simp; omega
      refine RowRep.ofFlat (vs := (us0.drop (s * r.k)).take (l * r.k) ++ us) rfl (by simp; omega) R.own (fun g hg => ?_) hblk
        (by simp [length_patchV (vs := arr.toList) (us := us) (off := p.base + (s + l) * r.k) (by simp; omega)]; omega)
        ⟨h3.1, fun j hj => h3.2 j (by simpa [length_patchV (vs := arr.toList) (us := us) (off := p.base + (s + l) * r.k) (by simp; omega)] using hj)⟩ (fun i hi => ?_) e5
      · rcases List.mem_append.1 hg with hg | hg
        · exact R.len g (List.mem_of_mem_drop (List.mem_of_mem_take hg))
        · exact hyl g hg
      · rw [List.length_append, hll] at hi
        rw [List.getElem?_toArray, getElem?_patchV (by simp; omega)]
        simp only
        by_cases hc : i < l * r.k
        · rw [if_neg (by omega), List.getElem?_append_left (by omega), List.getElem?_take, if_pos hc, List.getElem?_drop, Nat.add_assoc, ← h4 _ (by omega)]
          simp
        · rw [if_pos (by omega), List.getElem?_append_right (by omega), hll]
          congr 1; omega
    · rw [upd_ne ρ _ hii] at hid
      refine .inl ⟨hid, by rw [List.getElem?_set_ne (Ne.symm hii)], fun p' hp' => setCells_other us _ _ w _ (fun e => hii ?_)⟩
      subst hp'
      exact H.inj id' id g' g p' p hid hρ e
  · by_cases e1 : i = id
    · by_cases e2 : i' = id
      · omega
      · subst e1
        rw [upd_same] at q1
        rw [upd_ne ρ _ e2] at q2
        cases q1
        exact H.inj _ _ _ _ _ _ hρ q2 hb
    · rw [upd_ne ρ _ e1] at q1
      by_cases e2 : i' = id
      · subst e2
        rw [upd_same] at q2
        cases q2
        exact H.inj _ _ _ _ _ _ q1 hρ hb
      · rw [upd_ne ρ _ e2] at q2
        exact H.inj _ _ _ _ _ _ q1 q2 hb
  · have hlt : p.base + (s + l) * r.k + j < arr.size := by omega
    refine ⟨by rw [cell_of_row w p.b _ arr ty _ h1]; simp [hlt], ?_⟩
    have := h3.2 _ hlt
    simp only [World.frozen?, h1]
    simpa using this
/-- A row that loses its place, for it is empty. -/
theorem Heap.unplace {id g : Nat} {pl : Option Pl} {r : ARow} (H : Heap ρ w S O h) (hρ : ρ id = some (g, pl)) (hrow : h[id]? = some r) (r' : ARow) (hr : r'.es = []) (hg : r'.gen = g + 1) :
    Heap (upd ρ id (g + 1, none)) w S O (h.set id r') ∧ Ext ρ (upd ρ id (g + 1, none)) := by
  have he : Ext ρ (upd ρ id (g + 1, none)) := fun i g0 pl hi => by
    by_cases e : i = id
    · subst e
      rw [hρ] at hi
      cases hi
      exact ⟨_, _, upd_same ρ _ _, Nat.le_succ _, fun e => by omega⟩
    · exact ⟨g0, pl, by rw [upd_ne ρ _ e]; exact hi, Nat.le_refl _, fun _ => rfl⟩
  refine ⟨H.step he (.refl w O) (fun b hb => H.bd b (.inr hb)) (fun id' g' pl' hid => ?_) (fun i i' g1 g2 p1 p2 q1 q2 hb => ?_), he⟩
  · by_cases hii : id' = id
    · subst hii
      rw [upd_same] at hid
      cases hid
      exact .inr ⟨r', by rw [List.getElem?_set_self (List.getElem?_eq_some_iff.1 hrow).1], hg, hr⟩
    · rw [upd_ne ρ _ hii] at hid
      exact .inl ⟨hid, by rw [List.getElem?_set_ne (Ne.symm hii)], fun _ _ => rfl⟩
  · by_cases e1 : i = id
    · subst e1; rw [upd_same] at q1; cases q1
    · by_cases e2 : i' = id
      · subst e2; rw [upd_same] at q2; cases q2
      · rw [upd_ne ρ _ e1] at q1; rw [upd_ne ρ _ e2] at q2; exact H.inj _ _ _ _ _ _ q1 q2 hb
end
end Go.Proofs.Ytfnonledcniojaa
