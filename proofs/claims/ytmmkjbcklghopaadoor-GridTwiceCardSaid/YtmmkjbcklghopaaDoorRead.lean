/- How values of types all of whose parts are integers are read, over any program. Conditions: as each statement says. -/
import Derived.WalkKit
import Derived.ProofKit
import Derived.OpenShut
import Derived.Test.YtmmkjbcklghopaaDoorBase
set_option linter.unusedVariables false
set_option linter.unusedSimpArgs false
set_option linter.unusedSectionVars false
namespace Go.Proofs.YtmmkjbcklghopaaDoor
open Go Go.RowKit

/-- the kinds of a type's cells, if all its parts are integers that lie in order -/
def flatFs (P : Program) (go : TypeId → Option (List IntKind)) : List Field → Nat → Option (List IntKind)
  | [], _ => some []
  | f :: r, off => match go f.type with
    | some ks => if f.offset = off ∧ ks.length = P.cellsOf f.type then (flatFs P go r (off + ks.length)).map (ks ++ ·) else none
    | none => none
def flatKs (P : Program) : Nat → TypeId → Option (List IntKind)
  | 0, _ => none
  | d + 1, t => match P.underlying t with
    | some (.int k) => some [k]
    | some (.array n e) => match flatKs P d e with
      | some ks => if ks.length = P.cellsOf e ∧ P.cellsOf t = n * ks.length then some (List.replicate n ks).flatten else none
      | none => none
    | some (.struct fs) => match flatFs P (flatKs P d) fs.toList 0 with
      | some ks => if ks.length = P.cellsOf t then some ks else none
      | none => none
    | _ => none

/-- each cell is an integer of its kind that fits -/
def IntsOf (ks : List IntKind) (cs : List Value) : Prop := cs.length = ks.length ∧ ∀ (j : Nat) (k : IntKind), ks[j]? = some k → ∃ n, cs[j]? = some (Value.int k n) ∧ (Lit.int k n).wf = true

theorem IntsOf.append {k1 k2 : List IntKind} {cs : List Value} (hl : cs.length = k1.length + k2.length) (h1 : IntsOf k1 (cs.take k1.length)) (h2 : IntsOf k2 (cs.drop k1.length)) : IntsOf (k1 ++ k2) cs := by
  refine ⟨by simpa using hl, fun j k hj => ?_⟩
  by_cases h : j < k1.length
  · rw [List.getElem?_append_left h] at hj
    obtain ⟨n, hn, hw⟩ := h1.2 j k hj
    rw [List.getElem?_take, if_pos h] at hn
    exact ⟨n, hn, hw⟩
  · rw [List.getElem?_append_right (by omega)] at hj
    obtain ⟨n, hn, hw⟩ := h2.2 _ k hj
    rw [List.getElem?_drop, Nat.add_sub_cancel' (by omega)] at hn
    exact ⟨n, hn, hw⟩

section
variable {H : Type} {enc : TypeId × Value → H} {P : Program} {w : World} {base : Nat} {spare : Nat → Bool} {held : Bool}

theorem okWide_array {t : TypeId} {v : Value} {r : Reach} {n e : Nat} (ht : P.underlying t = some (.array n e)) (h : Value.okWide P w r base t v) : ∃ cs, v = .agg cs ∧ cs.size = P.cellsOf t := by
  simp only [Value.okWide, ht] at h
  obtain ⟨cs, h1, h2, _⟩ := h
  exact ⟨cs, h1, h2⟩

theorem flat_rep {n : Nat} {ks : List IntKind} : ∀ {cs : List Value}, cs.length = n * ks.length → (∀ i, i < n → IntsOf ks ((cs.drop (i * ks.length)).take ks.length)) → IntsOf (List.replicate n ks).flatten cs := by
  induction n with
  | zero => intro cs hl _; exact ⟨by simpa using hl, fun j k hj => by simp at hj⟩
  | succ n ih =>
    intro cs hl h
    rw [List.replicate_succ, List.flatten_cons]
    have hl' : cs.length = ks.length + n * ks.length := by rw [hl, Nat.succ_mul]; omega
    refine IntsOf.append (by simpa using hl') (by simpa using h 0 (by omega)) (ih (by simp; omega) (fun i hi => ?_))
    have := h (i + 1) (by omega)
    rw [List.drop_drop]
    rwa [show ks.length + i * ks.length = (i + 1) * ks.length by rw [Nat.succ_mul]; omega]

theorem flat_fs {fuel : Nat} {go : TypeId → Option (List IntKind)} {all : List Value}
    (hgo : ∀ (t : TypeId) (ks : List IntKind) (cs : List Value) (x : DataW H × List MemPlace), go t = some ks → DataW.trod enc P w base spare held fuel t cs = some x → IntsOf ks cs) :
    ∀ (fs : List Field) (off : Nat) (ks : List IntKind), flatFs P go fs off = some ks → (∀ f ∈ fs, ∃ x, DataW.trod enc P w base spare held fuel f.type ((all.drop f.offset).take (P.cellsOf f.type)) = some x) →
      off + ks.length = all.length → IntsOf ks (all.drop off)
  | [], off, ks, h, _, hl => by
    simp only [flatFs, Option.some.injEq] at h; subst h
    exact ⟨by simp at hl ⊢; omega, fun j k hj => by simp at hj⟩
  | f :: r, off, ks, h, ht, hl => by
    unfold flatFs at h
    cases hg : go f.type with
    | none => rw [hg] at h; cases h
    | some k1 =>
      rw [hg] at h
      simp only at h
      split at h
      · rename_i hc
        obtain ⟨ho, hk⟩ := hc
        cases hr : flatFs P go r (off + k1.length) with
        | none => rw [hr] at h; cases h
        | some k2 =>
          rw [hr] at h
          simp only [Option.map_some, Option.some.injEq] at h
          subst h
          simp only [List.length_append] at hl
          obtain ⟨x, hx⟩ := ht f (by simp)
          have i1 := hgo _ _ _ _ hg hx
          rw [ho, ← hk] at i1
          have i2 := flat_fs hgo r (off + k1.length) k2 hr (fun f' hf' => ht f' (by simp [hf'])) (by omega)
          refine IntsOf.append (by simp; omega) i1 ?_
          rw [List.drop_drop]; exact i2
      · cases h

theorem flat_read : ∀ (d : Nat) {t : TypeId} {ks : List IntKind}, flatKs P d t = some ks → ∀ {fuel : Nat} {cs : List Value} {x : DataW H × List MemPlace}, DataW.trod enc P w base spare held fuel t cs = some x → IntsOf ks cs
  | 0, _, _, h, _, _, _, _ => by simp [flatKs] at h
  | d + 1, t, ks, h, fuel, cs, x, hx => by
    unfold flatKs at h
    split at h
    · rename_i k hu
      simp only [Option.some.injEq] at h; subst h
      obtain ⟨n, rfl, _, hw⟩ := DataW.trod_int hu hx
      refine ⟨rfl, fun j k' hj => ?_⟩
      cases j with
      | zero => simp at hj; subst hj; exact ⟨n, rfl, hw⟩
      | succ j => simp at hj
    · rename_i n e hu
      cases hr : flatKs P d e with
      | none => rw [hr] at h; cases h
      | some k1 =>
        rw [hr] at h
        simp only at h
        split at h
        · rename_i hc
          simp only [Option.some.injEq] at h; subst h
          obtain ⟨xs, m, rfl, _, hl, hxl, hel⟩ := DataW.trod_array hu hx
          refine flat_rep (by rw [hl, hc.2]) (fun i hi => ?_)
          have := hel i hi
          rw [List.getElem?_eq_getElem (by omega), ← hc.1] at this
          exact flat_read d hr this
        · cases h
    · rename_i fs hu
      cases hr : flatFs P (flatKs P d) fs.toList 0 with
      | none => rw [hr] at h; cases h
      | some k1 =>
        rw [hr] at h
        simp only at h
        split at h
        · rename_i hc
          simp only [Option.some.injEq] at h; subst h
          obtain ⟨xs, m, rfl, _, hl, hxl, hel⟩ := DataW.trod_struct hu hx
          have := flat_fs (enc := enc) (w := w) (base := base) (spare := spare) (held := held) (fuel := m) (go := flatKs P d) (all := cs) (fun t ks cs x h1 h2 => flat_read d h1 h2) fs.toList 0 k1 hr (fun f hf => by
            obtain ⟨i, hi, hfi⟩ := List.mem_iff_getElem.1 hf
            have h3 := hel i f (by simp at hi; rw [Array.getElem?_eq_getElem hi]; simpa using hfi)
            rw [List.getElem?_eq_getElem (by simp at hi; omega)] at h3
            exact ⟨_, h3⟩) (by omega)
          simpa using this
        · cases h
    · cases h

theorem mapM_cells {f : Nat → Option Value} : ∀ {n : Nat} {cs : List Value}, (List.range n).mapM f = some cs → cs.length = n ∧ ∀ j, j < n → f j = cs[j]? := by
  intro n cs h
  have hl := mapM_some_length h
  refine ⟨by simpa using hl, fun j hj => ?_⟩
  exact mapM_some_get h j j (List.getElem?_range hj)

theorem cells_mid {b off n : Nat} {sp : Option Nat} {a : Addr} {cs : List Value} (ha : a = ⟨b, off, sp⟩) (h : w.cells? base a n = some cs) : cs.length = n ∧ (0 < n → sp = none) ∧ ∀ j, j < n → w.cell? ⟨b, off + j, none⟩ = cs[j]? := by
  unfold World.cells? at h
  split at h
  · obtain ⟨hl, hj⟩ := mapM_cells h
    subst ha
    have h0 : 0 < n → sp = none := fun h0 => by
      have := hj 0 h0
      rw [List.getElem?_eq_getElem (by omega)] at this
      have h1 : w.cell? ⟨b, off, sp⟩ = some cs[0] := by simpa [Addr.add] using this
      have := World.cell?_spot h1
      simpa using this
    refine ⟨hl, h0, fun j hjn => ?_⟩
    obtain rfl := h0 (by omega)
    have := hj j hjn
    rw [← this]
    congr 1
    unfold Addr.add
    split <;> simp_all
  · cases h

theorem slice_read {t e d : Nat} {ks : List IntKind} {v : Value} {dd : DataW H} {ps : List MemPlace} (ht : P.underlying t = some (.slice e)) (hf : flatKs P d e = some ks) (hc : ks.length = P.cellsOf e) (hpos : 0 < ks.length)
    (h : DataW.Trod enc P w base spare held t v dd ps) (hv : ∃ a n c, v = .slice a n c) :
    ∃ a len cap cells, v = .slice a len cap ∧ len ≤ cap ∧ cap ≤ 9223372036854775807 ∧ IntsOf (List.replicate len ks).flatten cells ∧ RowAt w a cells := by
  obtain ⟨a0, n0, c0, rfl⟩ := hv
  obtain ⟨fuel, hx⟩ := h
  rcases DataW.trod_slice ht hx with ⟨hcs, _⟩ | ⟨a, len, cap, elems, rest, n, _, hcs, _, hb, hl, hm, hlen, hel, _, _⟩
  · simp [Value.cells] at hcs
    obtain ⟨rfl, rfl, rfl⟩ := hcs
    exact ⟨none, 0, 0, [], rfl, by omega, by omega, ⟨by simp, fun j k hj => by simp at hj⟩, fun h => absurd rfl h⟩
  · simp [Value.cells] at hcs
    obtain ⟨rfl, rfl, rfl⟩ := hcs
    obtain ⟨b, off, sp⟩ := a
    have each : ∀ i, i < n0 → ∃ cs, cs.length = ks.length ∧ IntsOf ks cs ∧ sp = none ∧ ∀ j, j < ks.length → w.cell? ⟨b, off + (i * ks.length + j), none⟩ = cs[j]? := by
      intro i hi
      have h1 := hel i hi
      rw [List.getElem?_eq_getElem (by omega), ← hc] at h1
      have h00 := hel 0 (by omega)
      rw [List.getElem?_eq_getElem (by omega), ← hc] at h00
      cases hq : w.cells? base (Addr.add ⟨b, off, sp⟩ (i * ks.length)) ks.length with
      | none => rw [hq] at h1; simp at h1
      | some cs =>
        rw [hq] at h1
        simp only [Option.bind_some] at h1
        cases hq0 : w.cells? base (Addr.add ⟨b, off, sp⟩ (0 * ks.length)) ks.length with
        | none => rw [hq0] at h00; simp at h00
        | some cs0 =>
          have s0 := (cells_mid (b := b) (off := off) (sp := sp) (by simp [Addr.add]) hq0).2.1 hpos
          subst s0
          have ha : (Addr.add ⟨b, off, none⟩ (i * ks.length)) = ⟨b, off + i * ks.length, none⟩ := by unfold Addr.add; split <;> simp_all
          obtain ⟨hl2, _, hc2⟩ := cells_mid ha hq
          exact ⟨cs, hl2, flat_read d hf h1, rfl, fun j hj => by rw [← hc2 j hj, Nat.add_assoc]⟩
    refine ⟨some ⟨b, off, sp⟩, n0, c0, (List.range (n0 * ks.length)).map (fun j => (w.cell? ⟨b, off + j, none⟩).getD undef), rfl, hl, by unfold maxLen at hm; omega, ?_, ?_⟩
    · refine flat_rep (by simp) (fun i hi => ?_)
      obtain ⟨cs, hcl, hi1, _, hcj⟩ := each i hi
      have hle : i * ks.length + ks.length ≤ n0 * ks.length := by rw [← Nat.succ_mul]; exact Nat.mul_le_mul_right _ hi
      have : ((List.map (fun j => (w.cell? ⟨b, off + j, none⟩).getD undef) (List.range (n0 * ks.length))).drop (i * ks.length)).take ks.length = cs := by
        apply List.ext_getElem?
        intro j
        by_cases hj : j < ks.length
        · rw [List.getElem?_take, if_pos hj, List.getElem?_drop, List.getElem?_map, List.getElem?_range (by omega)]
          simp only [Option.map_some]
          rw [hcj j hj, List.getElem?_eq_getElem (by omega)]; rfl
        · rw [List.getElem?_eq_none (by simp; omega), List.getElem?_eq_none (by omega)]
      rw [this]; exact hi1
    · intro hne
      have hn0 : 0 < n0 := by
        rcases Nat.eq_zero_or_pos n0 with h | h
        · subst h; simp at hne
        · exact h
      obtain ⟨_, _, _, hsp, _⟩ := each 0 hn0
      subst hsp
      refine ⟨b, off, rfl, fun j v hj => ?_⟩
      rw [List.getElem?_map] at hj
      by_cases hlt : j < n0 * ks.length
      · rw [List.getElem?_range hlt] at hj
        simp only [Option.map_some, Option.some.injEq] at hj
        have hq : j / ks.length < n0 := (Nat.div_lt_iff_lt_mul hpos).2 hlt
        obtain ⟨cs, hcl, _, _, hcj⟩ := each (j / ks.length) hq
        have hmod := Nat.mod_lt j hpos
        have h3 := hcj (j % ks.length) hmod
        rw [Nat.mul_comm, Nat.div_add_mod] at h3
        rw [h3, List.getElem?_eq_getElem (by omega)] at hj ⊢
        simpa using hj
      · rw [List.getElem?_eq_none (by simp; omega)] at hj; simp at hj

theorem IntsOf.one {k : IntKind} {cs : List Value} {n : Nat} (h : IntsOf (List.replicate n k) cs) : ∃ l : List Int, l.length = n ∧ cs = l.map (Value.int k) ∧ ∀ x ∈ l, (Lit.int k x).wf = true := by
  have hl : cs.length = n := by simpa using h.1
  refine ⟨cs.map (fun v => match v with | .int _ q => q | _ => 0), by simpa using hl, ?_, ?_⟩
  · apply List.ext_getElem?
    intro j
    by_cases hj : j < n
    · obtain ⟨q, hq, _⟩ := h.2 j k (by rw [List.getElem?_replicate, if_pos hj])
      simp [hq]
    · rw [List.getElem?_eq_none (by omega), List.getElem?_eq_none (by simp; omega)]
  · intro x hx
    simp only [List.mem_map] at hx
    obtain ⟨v, hv, rfl⟩ := hx
    obtain ⟨j, hj, rfl⟩ := List.mem_iff_getElem.1 hv
    obtain ⟨q, hq, hw⟩ := h.2 j k (by rw [List.getElem?_replicate, if_pos (by omega)])
    rw [List.getElem?_eq_getElem hj] at hq
    simp only [Option.some.injEq] at hq
    rw [hq]; exact hw
theorem flatten_one {α : Type} (n : Nat) (k : α) : (List.replicate n [k]).flatten = List.replicate n k := by
  induction n with
  | zero => rfl
  | succ n ih => rw [List.replicate_succ, List.flatten_cons, ih]; rfl
end

theorem pair_of {cs : Array Value} (h : IntsOf [.i64, .i64] cs.toList) : ∃ p q : Int, cs = #[.int .i64 p, .int .i64 q] := by
  obtain ⟨l, hl, hc, _⟩ := IntsOf.one (k := .i64) (n := 2) h
  match l, hl with
  | [p, q], _ => exact ⟨p, q, by apply Array.toList_inj.1; rw [hc]; rfl⟩
end Go.Proofs.YtmmkjbcklghopaaDoor
