/- Each operation of the small machine stands for the program's operation: places, loads, slices, comparisons. Conditions: none. -/
import Derived.Test.YtfnonledcniojaaAmI
import Derived.Laws.BytesString
import Derived.Laws.Slices
namespace Go.Proofs.Ytfnonledcniojaa
open Go Go.RowKit
section
variable {P : Program} {G : Nat → Option (List AV)} {ρ : Rho} {w : World} {S O : Nat → Prop} {env : AEnv} {h : List ARow} {a : Act} {o : Oper} {v : AV} {h' : List ARow}

theorem load_run {t : TypeId} {agg : Bool} {m : Nat} {cs : List AV} {b o off : Nat} {val : Nat → Value} {v : AV} (hagg : isAggB P t = some agg) (hs : sizeIs P t m = true)
    (hc : ∀ j, j < cs.length → w.cell? ⟨b, o + j, none⟩ = some (val j) ∧ (val j).oneCell' = true) (hr : ∀ (j : Nat) c, cs[j]? = some c → RepV ρ w S O c (val j)) (hcut : acut agg m off cs = some v) :
    ∃ x, (Instr.loadAt t (.pointer (some ⟨b, o + off, none⟩))).run P w = .ok x w ∧ RepV ρ w S O v x := by
  cases agg with
  | false =>
    have hcut : cs[off]? = some v := hcut
    have hlt := (List.getElem?_eq_some_iff.1 hcut).1
    refine ⟨val off, ?_, hr off v hcut⟩
    simp [Instr.loadAt, Instr.sureAddr, loadVar, isAgg_run hagg, (hc off hlt).1]
  | true =>
    unfold acut at hcut
    rw [if_pos rfl] at hcut
    split at hcut
    case isFalse => cases hcut
    rename_i hle
    cases hcut
    obtain ⟨i, hi, hsz⟩ := info_of_size hs
    have hd : ∃ d, P.underlying t = some d ∧ d.isRow = true := by
      unfold isAggB at hagg
      split at hagg
      · rename_i hu; exact ⟨_, hu, rfl⟩
      · rename_i hu; exact ⟨_, hu, rfl⟩
      · cases hagg
      · cases hagg
    obtain ⟨d, hu, hrow⟩ := hd
    refine ⟨.agg ((List.range m).map fun j => val (off + j)).toArray, ?_, .agg _ _ (by simp; omega) ?_ ?_⟩
    · refine run_loadAt_mid w b (o + off) t _ d (fun j v hj => ?_) hu hrow (by simp [hi, hsz])
      have hjm : j < m := by have := (List.getElem?_eq_some_iff.1 hj).1; simpa using this
      simp [hjm] at hj
      subst hj
      rw [Nat.add_assoc]
      exact (hc (off + j) (by omega)).1
    · intro v hv
      obtain ⟨j, hj, rfl⟩ := List.mem_map.1 hv
      exact (hc (off + j) (by simp at hj; omega)).2
    · intro j c x hc' hx
      have hjm : j < m := by have := (List.getElem?_eq_some_iff.1 hx).1; simpa using this
      simp [hjm] at hx
      subst hx
      refine hr (off + j) c ?_
      rw [List.getElem?_take, if_pos hjm, List.getElem?_drop] at hc'
      exact hc'
theorem ok_load {agg : Bool} {m : Nat} {x : AOpd} (hop : chkOp P o.op (.load agg m x) = true) (R : Rel G ρ w S O env a) (H : Heap ρ w S O h) (he : aop G env h (.load agg m x) = some (v, h')) : OpN ρ w S O h ((execOp a.eval o).run P w) v h' := by
  obtain ⟨v0, h0, he⟩ := opt_bind_some.1 he
  obtain ⟨v1, h1, e⟩ := opt_map_some.1 he
  cases e
  simp only [chkOp] at hop
  split at hop
  case h_2 => cases hop
  rename_i t y heq
  simp only [Bool.and_eq_true, beq_iff_eq] at hop
  obtain ⟨⟨hx, hag⟩, hs⟩ := hop
  have hr := ev_rep hx R h0
  have fin : ∀ z, (∃ u, (Instr.loadAt t z).run P w = .ok u w ∧ RepV ρ w S O v u) → a.eval y = z → OpN ρ w S O h ((execOp a.eval o).run P w) v h := fun z ⟨u, h1, h2⟩ hz =>
    .pure H (x := u) (by simp [execOp, heq, hz, h1]) h2
  cases v0 with
  | ptr id g e off =>
    obtain ⟨r, hrow, h1⟩ := opt_bind_some.1 h1
    split at h1
    case isFalse => cases h1
    rename_i hgen
    obtain ⟨grp, hg, hcut⟩ := opt_bind_some.1 h1
    obtain ⟨g', pl, ad, hz, hρ, hle, hpl⟩ := rv_ptr hr
    obtain ⟨hg', his⟩ := H.at hρ hrow
    obtain ⟨p, rfl, rfl⟩ := hpl (by omega)
    obtain ⟨arr, ty, lo, hi, hb, hsz, _, hcell⟩ := RowRep.block his
    have hlen := RowRep.len his grp (List.mem_of_getElem? hg)
    refine fin _ (load_run (cs := grp) (b := p.b) (o := p.base + e * p.k) (off := off) (val := fun j => arr.getD (p.base + e * p.k + j) undef) hag hs (fun j hj => ?_) (fun j c hj => ?_) hcut) hz
    · obtain ⟨x, h1, h2, _⟩ := hcell e j grp _ hg (List.getElem?_eq_getElem hj)
      simp only [Array.getD_eq_getD_getElem?, h1, Option.getD_some]
      exact ⟨by rw [cell_of_row w p.b _ arr ty _ hb]; exact h1, h2⟩
    · obtain ⟨x, h1, _, h3, _⟩ := hcell e j grp c hg hj
      simp only [Array.getD_eq_getD_getElem?, h1, Option.getD_some]
      exact h3
  | dptr cs =>
    obtain ⟨b, off, val, hz, _, _, h5, h6⟩ := rv_dptr hr
    have := load_run (ρ := ρ) (S := S) (O := O) (cs := cs) (b := b) (o := off) (off := 0) (val := val) hag hs h5 (fun j c hj => .s (h6 j c hj)) h1
    exact fin _ this hz
  | _ => cases h1
theorem addr_add (b o n : Nat) : (⟨b, o, none⟩ : Addr).add n = ⟨b, o + n, none⟩ := Addr.add_mid b o n
theorem ok_faddr {off : Nat} {x : AOpd} (hop : chkOp P o.op (.faddr off x) = true) (R : Rel G ρ w S O env a) (he : aop G env h (.faddr off x) = some (v, h')) : FreeOk ρ w S O h ((execOp a.eval o).run P w) v h' := by
  obtain ⟨v0, h0, he⟩ := opt_bind_some.1 he
  obtain ⟨v1, h1, e⟩ := opt_map_some.1 he
  cases e
  simp only [chkOp] at hop
  split at hop
  case h_2 => cases hop
  rename_i s y f heq
  simp only [Bool.and_eq_true] at hop
  obtain ⟨hx, hop⟩ := hop
  split at hop
  case h_2 => cases hop
  rename_i fs hu
  split at hop
  case h_2 => cases hop
  rename_i fd hf
  simp only [Bool.and_eq_true, beq_iff_eq] at hop
  obtain ⟨hoff, hop⟩ := hop
  split at hop
  case h_2 => cases hop
  rename_i i hi
  have hsz : i.size ≠ 0 := by simpa using hop
  have hr := ev_rep hx R h0
  have run : ∀ b o, (Instr.fieldAt s (.pointer (some ⟨b, o, none⟩)) f).run P w = .ok (.pointer (some ⟨b, o + off, none⟩)) w := fun b o => by
    simp [Instr.fieldAt, run_underlying hu, hf, Instr.sureAddr, fieldPlace, sizeOf, typeInfo, hi, hsz, addr_add, hoff]
  cases v0 with
  | ptr id g e off0 =>
    cases h1
    obtain ⟨g', pl, ad, hz, hρ, hle, hpl⟩ := rv_ptr hr
    by_cases hg : g = g'
    · obtain ⟨p, rfl, rfl⟩ := hpl hg
      exact .pure (x := .pointer (some ⟨p.b, p.base + e * p.k + off0 + off, none⟩)) (by simp [execOp, heq, hz, run]) (.ptr id g g' (some p) e (off0 + off) _ hρ hle (fun _ => ⟨p, rfl, by rw [Nat.add_assoc]⟩))
    · refine .pure (x := .pointer (some (ad.add off))) ?_ (.ptr id g g' pl e (off0 + off) _ hρ hle (fun h => absurd h hg))
      simp [execOp, heq, hz, Instr.fieldAt, run_underlying hu, hf, Instr.sureAddr, fieldPlace, sizeOf, typeInfo, hi, hsz, hoff]
  | dptr cs =>
    cases h1
    obtain ⟨b, o1, val, hz, h3, h4, h5, h6⟩ := rv_dptr hr
    refine .pure (x := .pointer (some ⟨b, o1 + off, none⟩)) (by simp [execOp, heq, hz, run]) (.dptr _ b (o1 + off) (fun j => val (off + j)) h3 h4 (fun j hj => ?_) fun j c hj => ?_)
    · rw [Nat.add_assoc]; exact h5 (off + j) (by simp at hj; omega)
    · exact h6 (off + j) c (by rw [List.getElem?_drop] at hj; exact hj)
  | _ => cases h1
theorem ok_field {agg : Bool} {m off : Nat} {x : AOpd} (hop : chkOp P o.op (.field agg m off x) = true) (R : Rel G ρ w S O env a) (he : aop G env h (.field agg m off x) = some (v, h')) : FreeOk ρ w S O h ((execOp a.eval o).run P w) v h' := by
  obtain ⟨v0, h0, he⟩ := opt_bind_some.1 he
  split at he
  case h_2 => cases he
  rename_i cs
  obtain ⟨v1, h1, e⟩ := opt_map_some.1 he
  cases e
  simp only [chkOp] at hop
  split at hop
  case h_2 => cases hop
  rename_i s y f heq
  simp only [Bool.and_eq_true] at hop
  obtain ⟨hx, hop⟩ := hop
  split at hop
  case h_2 => cases hop
  rename_i fs hu
  split at hop
  case h_2 => cases hop
  rename_i fd hf
  simp only [Bool.and_eq_true, beq_iff_eq] at hop
  obtain ⟨⟨hoff, hag⟩, hs⟩ := hop
  obtain ⟨vs, hz, hl, hone, hrep⟩ := rv_agg (ev_rep hx R h0)
  subst hoff
  have key : ∃ u, (part fd.type vs.toArray fd.offset).run P w = .ok u w ∧ RepV ρ w S O v u := by
    cases agg with
    | false =>
      have h1 : cs[fd.offset]? = some v := h1
      have hlt := (List.getElem?_eq_some_iff.1 h1).1
      refine ⟨vs[fd.offset], ?_, hrep _ _ _ h1 (by simp [hl ▸ hlt])⟩
      simp [part, isAgg_run hag, hl ▸ hlt]
    | true =>
      unfold acut at h1
      rw [if_pos rfl] at h1
      split at h1
      case isFalse => cases h1
      rename_i hle
      cases h1
      refine ⟨.agg ((vs.drop fd.offset).take m).toArray, ?_, .agg _ _ (by simp; omega) ?_ ?_⟩
      · simp only [part, Sem.run_bind, isAgg_run hag, Result.andThen_ok, if_true, sizeOf_run hs, Sem.run_pure]
        congr 2
        apply Array.ext'
        simp
      · intro u hu; exact hone u (List.mem_of_mem_drop (List.mem_of_mem_take hu))
      · intro i c u hc hu
        have hi : i < m := by have := (List.getElem?_eq_some_iff.1 hu).1; simp at this; omega
        rw [List.getElem?_take, if_pos hi, List.getElem?_drop] at hc hu
        exact hrep _ _ _ hc hu
  obtain ⟨u, hrun, hu'⟩ := key
  exact .pure (x := u) (by simp [execOp, heq, hz, Instr.field, run_underlying hu, hf, asAgg, hrun]) hu'
theorem ok_idx {k : Nat} {x i : AOpd} (hop : chkOp P o.op (.idx k x i) = true) (R : Rel G ρ w S O env a) (H : Heap ρ w S O h) (he : aop G env h (.idx k x i) = some (v, h')) : OpN ρ w S O h ((execOp a.eval o).run P w) v h' := by
  obtain ⟨v0, h0, he⟩ := opt_bind_some.1 he
  obtain ⟨vi, hi0, he⟩ := opt_bind_some.1 he
  obtain ⟨v1, h1, e⟩ := opt_map_some.1 he
  cases e
  simp only [chkOp] at hop
  split at hop
  case h_2 => cases hop
  rename_i t y j heq
  simp only [Bool.and_eq_true] at hop
  obtain ⟨⟨hx, hj⟩, hop⟩ := hop
  split at hop
  case h_2 => cases hop
  rename_i e hu
  have hr := ev_rep hx R h0
  have hri := ev_rep hj R hi0
  have run : ∀ (ad : Addr) (len cap : Nat) (kk : IntKind) (n : Int), 0 ≤ n → n < len → (Instr.indexAt t (.slice (some ad) len cap) (.int kk n)).run P w = .ok (.pointer (some (ad.add (n.toNat * k)))) w := fun ad len cap kk n hn0 hn => by
    simp [Instr.indexAt, asIntOf, run_underlying hu, hn0, hn, sizeOf_run hop]
  cases v0 with
  | own id g s l c =>
    cases vi with
    | int kk n =>
      obtain ⟨r, hrow, h1⟩ := opt_bind_some.1 h1
      split at h1
      case isFalse => cases h1
      rename_i hgk
      split at h1
      case isFalse => cases h1
      rename_i hn
      cases h1
      obtain ⟨g', pl, ad, cap, hz, hρ, hle, hlc, _, _, hpl⟩ := rv_own hr
      obtain ⟨hg', his⟩ := H.at hρ hrow
      have e2 := rv_int hri
      rcases hpl (by omega) with hc0 | ⟨p, rfl, rfl, hlim⟩
      · omega
      have hk : p.k = k := (RowRep.k his).trans hgk.2
      refine .pure H (x := .pointer (some ⟨p.b, p.base + (s + n.toNat) * p.k + 0, none⟩)) ?_ (.ptr id g g' (some p) (s + n.toNat) 0 _ hρ hle (fun _ => ⟨p, rfl, rfl⟩))
      have ea : p.base + s * p.k + n.toNat * k = p.base + (s + n.toNat) * p.k + 0 := by rw [hk, Nat.add_mul]; omega
      simp only [execOp, heq, hz, e2, Sem.run_bind, run _ _ _ _ _ hn.1 hn.2, Result.andThen_ok, Sem.run_pure, addr_add, ea]
    | _ => cases h1
  | data bo k' es f =>
    cases vi with
    | int kk n =>
      have h1 : (if k' = k then if 0 ≤ n then (es[n.toNat]?).map AV.dptr else none else none) = some v := h1
      split at h1
      case isFalse => cases h1
      rename_i hk
      split at h1
      case isFalse => cases h1
      rename_i hn
      obtain ⟨g, hg, rfl⟩ := opt_map_some.1 h1
      subst hk
      have hlt := (List.getElem?_eq_some_iff.1 hg).1
      obtain ⟨ad, cap, hz, hlc, _, hlen, hd⟩ := rv_data hr
      have e2 := rv_int hri
      rcases hd with rfl | ⟨b, off, val, rfl, hO, _, hb, hc, hrp⟩
      · simp at hlt
      have hgl := hlen g (List.mem_of_getElem? hg)
      refine .pure H (x := .pointer (some ⟨b, off + n.toNat * k', none⟩)) ?_ (.dptr g b (off + n.toNat * k') (fun j => val n.toNat j) hO hb (fun j hj => ?_) fun j c hj => hrp _ _ _ _ hg hj)
      · simp only [execOp, heq, hz, e2, Sem.run_bind, run _ _ _ _ _ hn (show n < (es.length : Int) by omega), Result.andThen_ok, Sem.run_pure, addr_add]
      · rw [Nat.add_assoc]; exact hc _ _ hlt (by omega)
    | _ => cases h1
  | _ => cases vi <;> cases h1
theorem ok_idxarr {k n : Nat} {x i : AOpd} (hop : chkOp P o.op (.idxarr k n x i) = true) (R : Rel G ρ w S O env a) (he : aop G env h (.idxarr k n x i) = some (v, h')) : FreeOk ρ w S O h ((execOp a.eval o).run P w) v h' := by
  obtain ⟨v0, h0, he⟩ := opt_bind_some.1 he
  obtain ⟨vi, hi0, he⟩ := opt_bind_some.1 he
  obtain ⟨v1, h1, e⟩ := opt_map_some.1 he
  cases e
  simp only [chkOp] at hop
  split at hop
  case h_2 => cases hop
  rename_i t y j heq
  simp only [Bool.and_eq_true] at hop
  obtain ⟨⟨hx, hj⟩, hop⟩ := hop
  split at hop
  case h_2 => cases hop
  rename_i n' e hu
  simp only [Bool.and_eq_true, beq_iff_eq] at hop
  obtain ⟨rfl, hs⟩ := hop
  have hr := ev_rep hx R h0
  have hri := ev_rep hj R hi0
  have run : ∀ (ad : Addr) (kk : IntKind) (m : Int), 0 ≤ m → m < n → (Instr.indexAt t (.pointer (some ad)) (.int kk m)).run P w = .ok (.pointer (some (ad.add (m.toNat * k)))) w := fun ad kk m hm0 hm => by
    simp [Instr.indexAt, asIntOf, run_underlying hu, hm0, hm, sizeOf_run hs, Instr.sureAddr]
  cases v0 with
  | ptr id g e0 off0 =>
    cases vi with
    | int kk m =>
      have h1 : (if 0 ≤ m ∧ m < n then some (AV.ptr id g e0 (off0 + m.toNat * k)) else none) = some v := h1
      split at h1
      case isFalse => cases h1
      rename_i hn
      cases h1
      obtain ⟨g', pl, ad, hz, hρ, hle, hpl⟩ := rv_ptr hr
      have e2 := rv_int hri
      refine .pure (x := .pointer (some (ad.add (m.toNat * k)))) ?_ (.ptr id g g' pl e0 (off0 + m.toNat * k) _ hρ hle (fun hg => ?_))
      · simp only [execOp, heq, hz, e2, Sem.run_bind, run _ _ _ hn.1 hn.2, Result.andThen_ok, Sem.run_pure]
      · obtain ⟨p, h3, rfl⟩ := hpl hg
        exact ⟨p, h3, by rw [addr_add, Nat.add_assoc]⟩
    | _ => cases h1
  | dptr cs =>
    cases vi with
    | int kk m =>
      have h1 : (if 0 ≤ m ∧ m < n then some (AV.dptr (cs.drop (m.toNat * k))) else none) = some v := h1
      split at h1
      case isFalse => cases h1
      rename_i hn
      cases h1
      obtain ⟨b, o1, val, hz, h3, h4, h5, h6⟩ := rv_dptr hr
      have e2 := rv_int hri
      refine .pure (x := .pointer (some ⟨b, o1 + m.toNat * k, none⟩)) ?_ (.dptr _ b (o1 + m.toNat * k) (fun j => val (m.toNat * k + j)) h3 h4 (fun j hj => ?_) fun j c hj => ?_)
      · simp only [execOp, heq, hz, e2, Sem.run_bind, run _ _ _ hn.1 hn.2, Result.andThen_ok, Sem.run_pure, addr_add]
      · rw [Nat.add_assoc]; exact h5 (m.toNat * k + j) (by simp at hj; omega)
      · exact h6 (m.toNat * k + j) c (by rw [List.getElem?_drop] at hj; exact hj)
    | _ => cases h1
  | _ => cases vi <;> cases h1
end
end Go.Proofs.Ytfnonledcniojaa
