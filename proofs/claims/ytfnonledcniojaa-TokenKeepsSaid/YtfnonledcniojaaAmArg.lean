/- How arguments whose types are made of numbers, bools, strings, slices, structs and arrays stand for the small machine's values. Conditions: as each statement says. -/
import Derived.Test.YtfnonledcniojaaAmE
import Derived.WalkKit
import Derived.ProofKit
import Derived.OpenShut
import Derived.WideShapes
import Derived.ChangeShapes
namespace Go.Proofs.Ytfnonledcniojaa
open Go Go.RowKit

inductive Ty where
  | int (k : IntKind)
  | bool
  | str
  | sl (e : List Ty)

mutual
/-- Is it a value of the type? -/
def HasTy : Ty → AV → Prop
  | .int k, v => ∃ n, v = .int k n ∧ k.min ≤ n ∧ n ≤ k.max
  | .bool, v => ∃ b, v = .bool b
  | .str, v => ∃ s : ByteArray, v = .str s ∧ s.size ≤ 9223372036854775807
  | .sl e, v => ∃ (es : List (List AV)) (f : Bool), v = .data false e.length es f ∧ es.length ≤ 9223372036854775807 ∧ ∀ g ∈ es, HasTys e g
def HasTys : List Ty → List AV → Prop
  | [], [] => True
  | t :: ts, v :: vs => HasTy t v ∧ HasTys ts vs
  | _, _ => False
end

theorem HasTys.len : ∀ {ts : List Ty} {vs : List AV}, HasTys ts vs → vs.length = ts.length
  | [], [], _ => rfl
  | t :: ts, v :: vs, h => by
    simp only [HasTys] at h
    simp [HasTys.len h.2]
  | [], _ :: _, h => by simp [HasTys] at h
  | _ :: _, [], h => by simp [HasTys] at h
theorem HasTys.append : ∀ {ts us : List Ty} {vs xs : List AV}, HasTys ts vs → HasTys us xs → HasTys (ts ++ us) (vs ++ xs)
  | [], _, [], _, _, h => by simpa using h
  | t :: ts, us, v :: vs, xs, h, h2 => by
    simp only [HasTys, List.cons_append] at h ⊢
    exact ⟨h.1, HasTys.append h.2 h2⟩
  | [], _, _ :: _, _, h, _ => by simp [HasTys] at h
  | _ :: _, _, [], _, h, _ => by simp [HasTys] at h

/-- The cells' types of a type. -/
def flatTFs (P : Program) (go : TypeId → Option (List Ty)) : List Field → Nat → Option (List Ty)
  | [], _ => some []
  | f :: r, off => match go f.type with
    | some ks => if f.offset = off ∧ ks.length = P.cellsOf f.type then (flatTFs P go r (off + ks.length)).map (ks ++ ·) else none
    | none => none
def flatTy (P : Program) : Nat → TypeId → Option (List Ty)
  | 0, _ => none
  | d + 1, t => match P.underlying t with
    | some .bool => some [.bool]
    | some (.int k) => some [.int k]
    | some .string => some [.str]
    | some (.slice e) => match flatTy P d e with
      | some ks => if ks.length = P.cellsOf e ∧ 0 < ks.length then some [.sl ks] else none
      | none => none
    | some (.array n e) => match flatTy P d e with
      | some ks => if ks.length = P.cellsOf e ∧ P.cellsOf t = n * ks.length then some (List.replicate n ks).flatten else none
      | none => none
    | some (.struct fs) => match flatTFs P (flatTy P d) fs.toList 0 with
      | some ks => if ks.length = P.cellsOf t then some ks else none
      | none => none
    | _ => none

/-- Cells that values stand for. -/
def RepC (w : World) (as : List AV) (cs : List Value) : Prop :=
  as.length = cs.length ∧ (∀ v ∈ cs, v.oneCell' = true) ∧ ∀ (i : Nat) c v, as[i]? = some c → cs[i]? = some v → RepS w (fun _ => False) c v
def TyC (w : World) (ts : List Ty) (cs : List Value) : Prop := ∃ as, HasTys ts as ∧ RepC w as cs

theorem RepC.append {w : World} {as bs : List AV} {cs ds : List Value} (h : RepC w as cs) (k : RepC w bs ds) : RepC w (as ++ bs) (cs ++ ds) := by
  obtain ⟨h1, h2, h3⟩ := h
  obtain ⟨k1, k2, k3⟩ := k
  refine ⟨by simp [h1, k1], fun v hv => (List.mem_append.1 hv).elim (h2 v) (k2 v), fun i c v hc hv => ?_⟩
  by_cases hi : i < as.length
  · rw [List.getElem?_append_left hi] at hc
    rw [List.getElem?_append_left (by omega)] at hv
    exact h3 i c v hc hv
  · rw [List.getElem?_append_right (by omega)] at hc
    rw [List.getElem?_append_right (by omega), ← h1] at hv
    exact k3 _ c v hc hv
theorem TyC.append {w : World} {ts us : List Ty} {cs ds : List Value} (h : TyC w ts cs) (k : TyC w us ds) : TyC w (ts ++ us) (cs ++ ds) := by
  obtain ⟨as, h1, h2⟩ := h
  obtain ⟨bs, k1, k2⟩ := k
  exact ⟨as ++ bs, h1.append k1, h2.append k2⟩
theorem TyC.nil {w : World} : TyC w [] [] := ⟨[], by simp [HasTys], rfl, fun _ h => by simp at h, fun i c v h => by simp at h⟩
theorem TyC.one {w : World} {t : Ty} {a : AV} {v : Value} (h : HasTy t a) (ho : v.oneCell' = true) (hr : RepS w (fun _ => False) a v) : TyC w [t] [v] :=
  ⟨[a], by simp [HasTys, h], rfl, fun x hx => by simp at hx; subst hx; exact ho, fun i c x hc hx => by
    cases i with
    | zero => simp at hc hx; subst hc hx; exact hr
    | succ i => simp at hc⟩

theorem tyC_rep {w : World} {n : Nat} {ks : List Ty} : ∀ {cs : List Value}, cs.length = n * ks.length → (∀ i, i < n → TyC w ks ((cs.drop (i * ks.length)).take ks.length)) → TyC w (List.replicate n ks).flatten cs := by
  induction n with
  | zero => intro cs hl _; simp at hl; subst hl; simpa using TyC.nil
  | succ n ih =>
    intro cs hl h
    rw [List.replicate_succ, List.flatten_cons]
    have hl' : cs.length = ks.length + n * ks.length := by rw [hl, Nat.succ_mul]; omega
    have h0 := h 0 (by omega)
    simp only [Nat.zero_mul, List.drop_zero] at h0
    have h1 := ih (cs := cs.drop ks.length) (by simp; omega) (fun i hi => by
      have := h (i + 1) (by omega)
      rw [List.drop_drop]
      rwa [show ks.length + i * ks.length = (i + 1) * ks.length by rw [Nat.succ_mul]; omega])
    have := h0.append h1
    rwa [List.take_append_drop] at this

section
variable {H : Type} {enc : TypeId × Value → H} {P : Program} {w : World} {base : Nat} {spare : Nat → Bool} {held : Bool}

theorem tyC_fs {fuel : Nat} {go : TypeId → Option (List Ty)} {all : List Value}
    (hgo : ∀ (t : TypeId) (ks : List Ty) (cs : List Value) (x : DataW H × List MemPlace), go t = some ks → DataW.trod enc P w base spare held fuel t cs = some x → TyC w ks cs) :
    ∀ (fs : List Field) (off : Nat) (ks : List Ty), flatTFs P go fs off = some ks → (∀ f ∈ fs, ∃ x, DataW.trod enc P w base spare held fuel f.type ((all.drop f.offset).take (P.cellsOf f.type)) = some x) →
      off + ks.length = all.length → TyC w ks (all.drop off)
  | [], off, ks, h, _, hl => by
    simp only [flatTFs, Option.some.injEq] at h; subst h
    rw [List.drop_eq_nil_of_le (by simp at hl; omega)]
    exact TyC.nil
  | f :: r, off, ks, h, ht, hl => by
    unfold flatTFs at h
    cases hg : go f.type with
    | none => rw [hg] at h; cases h
    | some k1 =>
      rw [hg] at h
      simp only at h
      split at h
      · rename_i hc
        obtain ⟨ho, hk⟩ := hc
        cases hr : flatTFs P go r (off + k1.length) with
        | none => rw [hr] at h; cases h
        | some k2 =>
          rw [hr] at h
          simp only [Option.map_some, Option.some.injEq] at h
          subst h
          simp only [List.length_append] at hl
          obtain ⟨x, hx⟩ := ht f (by simp)
          have i1 := hgo _ _ _ _ hg hx
          rw [ho, ← hk] at i1
          have i2 := tyC_fs hgo r (off + k1.length) k2 hr (fun f' hf' => ht f' (by simp [hf'])) (by omega)
          have := i1.append i2
          rw [← List.drop_drop] at this
          rwa [List.take_append_drop] at this
      · cases h

theorem mapM_cells' {f : Nat → Option Value} : ∀ {n : Nat} {cs : List Value}, (List.range n).mapM f = some cs → cs.length = n ∧ ∀ j, j < n → f j = cs[j]? := by
  intro n cs h
  have hl := mapM_some_length h
  refine ⟨by simpa using hl, fun j hj => ?_⟩
  exact mapM_some_get h j j (List.getElem?_range hj)
theorem cells_mid' {b off n : Nat} {sp : Option Nat} {a : Addr} {cs : List Value} (ha : a = ⟨b, off, sp⟩) (h : w.cells? base a n = some cs) : cs.length = n ∧ (0 < n → sp = none) ∧ ∀ j, j < n → w.cell? ⟨b, off + j, none⟩ = cs[j]? := by
  unfold World.cells? at h
  split at h
  · obtain ⟨hl, hj⟩ := mapM_cells' h
    subst ha
    have h0 : 0 < n → sp = none := fun h0 => by
      have := hj 0 h0
      rw [List.getElem?_eq_getElem (by omega)] at this
      have h1 : w.cell? ⟨b, off, sp⟩ = some cs[0] := by simpa [Addr.add] using this
      have := World.cell?_spot h1
      simpa using this
    refine ⟨hl, h0, fun j hjn => ?_⟩
    obtain rfl := h0 (by omega)
    have := hj j hjn
    rw [← this]
    congr 1
    unfold Addr.add
    split <;> simp_all
  · cases h

theorem tyC_slice {e : TypeId} {ks : List Ty} {n0 c0 m : Nat} {a : Addr} {elems : List (DataW H × List MemPlace)} (hc : ks.length = P.cellsOf e) (hpos : 0 < ks.length) (hl : n0 ≤ c0) (hm : c0 ≤ maxLen) (hlen : elems.length = n0)
    (hel : ∀ i, i < n0 → (w.cells? base (a.add (i * P.cellsOf e)) (P.cellsOf e)).bind (DataW.trod enc P w base spare held m e) = elems[i]?)
    (hgo : ∀ (cs : List Value) (x : DataW H × List MemPlace), DataW.trod enc P w base spare held m e cs = some x → TyC w ks cs) :
    ∃ av, HasTy (.sl ks) av ∧ RepS w (fun _ => False) av (.slice (some a) n0 c0) := by
  have hm' : n0 ≤ 9223372036854775807 := by unfold maxLen at hm; omega
  rcases Nat.eq_zero_or_pos n0 with h0 | h0
  · subst h0
    refine ⟨.data false ks.length [] false, ⟨[], false, rfl, by simp, fun g hg => by simp at hg⟩, .data0 _ _ _ _ (fun h => by cases h)⟩
  · obtain ⟨b, off, sp⟩ := a
    have each : ∀ i, i < n0 → ∃ as cs, HasTys ks as ∧ RepC w as cs ∧ cs.length = ks.length ∧ sp = none ∧ b < w.heap.size ∧ ∀ j, j < ks.length → w.cell? ⟨b, off + (i * ks.length + j), none⟩ = cs[j]? := by
      intro i hi
      have h1 := hel i hi
      rw [List.getElem?_eq_getElem (by omega), ← hc] at h1
      have h00 := hel 0 (by omega)
      rw [List.getElem?_eq_getElem (by omega), ← hc] at h00
      cases hq : w.cells? base (Addr.add ⟨b, off, sp⟩ (i * ks.length)) ks.length with
      | none => rw [hq] at h1; simp at h1
      | some cs =>
        rw [hq] at h1
        simp only [Option.bind_some] at h1
        cases hq0 : w.cells? base (Addr.add ⟨b, off, sp⟩ (0 * ks.length)) ks.length with
        | none => rw [hq0] at h00; simp at h00
        | some cs0 =>
          have s0 := (cells_mid' (b := b) (off := off) (sp := sp) (by simp [Addr.add]) hq0).2.1 hpos
          subst s0
          have ha : (Addr.add ⟨b, off, none⟩ (i * ks.length)) = ⟨b, off + i * ks.length, none⟩ := by unfold Addr.add; split <;> simp_all
          obtain ⟨hl2, _, hc2⟩ := cells_mid' ha hq
          obtain ⟨as, t1, t2⟩ := hgo _ _ h1
          refine ⟨as, cs, t1, t2, hl2, rfl, ?_, fun j hj => by rw [← hc2 j hj, Nat.add_assoc]⟩
          have hcell := hc2 0 hpos
          rw [List.getElem?_eq_getElem (by omega)] at hcell
          unfold World.cell? at hcell
          by_cases hb : b < w.heap.size
          · exact hb
          · rw [Array.getElem?_eq_none (by simpa using hb)] at hcell
            simp at hcell
    obtain ⟨_, _, _, _, _, hsp, hbd, _⟩ := each 0 h0
    subst hsp
    have hes : ∃ es : List (List AV), es.length = n0 ∧ ∀ i, i < n0 → ∃ as cs, es[i]? = some as ∧ HasTys ks as ∧ RepC w as cs ∧ cs.length = ks.length ∧ ∀ j, j < ks.length → w.cell? ⟨b, off + (i * ks.length + j), none⟩ = cs[j]? := by
      refine ⟨(List.range n0).map fun i => if h : i < n0 then Classical.choose (each i h) else [], by simp, fun i hi => ?_⟩
      obtain ⟨cs, h1, h2, h3, _, _, h4⟩ := Classical.choose_spec (each i hi)
      exact ⟨_, cs, by rw [List.getElem?_map, List.getElem?_range hi]; simp [hi], h1, h2, h3, h4⟩
    obtain ⟨es, hesl, hes⟩ := hes
    refine ⟨.data false ks.length es (decide (c0 = n0)), ⟨es, _, rfl, by omega, fun g hg => ?_⟩, ?_⟩
    · obtain ⟨i, hi, rfl⟩ := List.mem_iff_getElem.1 hg
      obtain ⟨as, cs, h1, h2, _⟩ := hes i (by omega)
      rw [List.getElem?_eq_getElem hi] at h1
      cases h1
      exact h2
    · have : RepS w (fun _ => False) (.data false ks.length es (decide (c0 = n0))) (.slice (some ⟨b, off, none⟩) es.length c0) := by
        refine .data ks.length es _ b off c0 (fun e j => (w.cell? ⟨b, off + (e * ks.length + j), none⟩).getD undef) (by omega) (fun h => by simp at h; omega) (fun g hg => ?_) (fun h => h) hbd (fun e0 j he hj => ?_) (fun e0 j g c hg hcj => ?_)
        · obtain ⟨i, hi, rfl⟩ := List.mem_iff_getElem.1 hg
          obtain ⟨as, cs, h1, h2, _⟩ := hes i (by omega)
          rw [List.getElem?_eq_getElem hi] at h1
          cases h1
          exact h2.len
        · obtain ⟨as, cs, h1, h2, h3, h4, h5⟩ := hes e0 (by omega)
          have h6 := h5 j hj
          rw [List.getElem?_eq_getElem (by omega)] at h6
          simp only [h6, Option.getD_some, true_and]
          exact h3.2.1 _ (List.getElem_mem _)
        · obtain ⟨hi, _⟩ := List.getElem?_eq_some_iff.1 hg
          obtain ⟨as, cs, h1, h2, h3, h4, h5⟩ := hes e0 (by omega)
          rw [hg] at h1
          cases h1
          have hj : j < ks.length := by rw [← h2.len]; exact (List.getElem?_eq_some_iff.1 hcj).1
          have h6 := h5 j hj
          rw [List.getElem?_eq_getElem (by omega)] at h6
          simp only [h6, Option.getD_some]
          exact h3.2.2 j _ _ hcj (List.getElem?_eq_getElem (by omega))
      rwa [hesl] at this

theorem read_ty : ∀ (d : Nat) {t : TypeId} {ts : List Ty}, flatTy P d t = some ts → ∀ {fuel : Nat} {cs : List Value} {x : DataW H × List MemPlace}, DataW.trod enc P w base spare held fuel t cs = some x → TyC w ts cs
  | 0, _, _, h, _, _, _, _ => by simp [flatTy] at h
  | d + 1, t, ks, h, fuel, cs, x, hx => by
    unfold flatTy at h
    split at h
    · rename_i hu
      simp only [Option.some.injEq] at h; subst h
      obtain ⟨b, rfl, _⟩ := DataW.trod_bool hu hx
      exact TyC.one (a := .bool b) ⟨b, rfl⟩ rfl (.bool b)
    · rename_i k hu
      simp only [Option.some.injEq] at h; subst h
      obtain ⟨n, rfl, _, hw⟩ := DataW.trod_int hu hx
      simp only [Lit.wf, Bool.and_eq_true, decide_eq_true_eq] at hw
      exact TyC.one (a := .int k n) ⟨n, rfl, hw.1, hw.2⟩ rfl (.int k n)
    · rename_i hu
      simp only [Option.some.injEq] at h; subst h
      obtain ⟨s, rfl, _, hw⟩ := DataW.trod_string hu hx
      exact TyC.one (a := .str s) ⟨s, rfl, by unfold maxLen at hw; omega⟩ rfl (.str s)
    · rename_i e hu
      cases hr : flatTy P d e with
      | none => rw [hr] at h; cases h
      | some k1 =>
        rw [hr] at h
        simp only at h
        split at h
        · rename_i hc
          simp only [Option.some.injEq] at h; subst h
          rcases DataW.trod_slice hu hx with ⟨rfl, _⟩ | ⟨a, len, cap, elems, rest, n, _, rfl, _, hb, hl, hm, hlen, hel, _, _⟩
          · exact TyC.one (a := .data false k1.length [] true) ⟨[], true, rfl, by simp, fun g hg => by simp at hg⟩ rfl (.data0 _ _ _ _ (fun _ => rfl))
          · obtain ⟨av, h1, h2⟩ := tyC_slice hc.1 hc.2 hl hm hlen hel (fun cs x hx => read_ty d hr hx)
            exact TyC.one h1 rfl h2
        · cases h
    · rename_i n e hu
      cases hr : flatTy P d e with
      | none => rw [hr] at h; cases h
      | some k1 =>
        rw [hr] at h
        simp only at h
        split at h
        · rename_i hc
          simp only [Option.some.injEq] at h; subst h
          obtain ⟨xs, m, rfl, _, hl, hxl, hel⟩ := DataW.trod_array hu hx
          refine tyC_rep (by rw [hl, hc.2]) (fun i hi => ?_)
          have := hel i hi
          rw [List.getElem?_eq_getElem (by omega), ← hc.1] at this
          exact read_ty d hr this
        · cases h
    · rename_i fs hu
      cases hr : flatTFs P (flatTy P d) fs.toList 0 with
      | none => rw [hr] at h; cases h
      | some k1 =>
        rw [hr] at h
        simp only at h
        split at h
        · rename_i hc
          simp only [Option.some.injEq] at h; subst h
          obtain ⟨xs, m, rfl, _, hl, hxl, hel⟩ := DataW.trod_struct hu hx
          have := tyC_fs (enc := enc) (w := w) (base := base) (spare := spare) (held := held) (fuel := m) (go := flatTy P d) (all := cs) (fun t ks cs x h1 h2 => read_ty d h1 h2) fs.toList 0 k1 hr (fun f hf => by
            obtain ⟨i, hi, hfi⟩ := List.mem_iff_getElem.1 hf
            have h3 := hel i f (by simp at hi; rw [Array.getElem?_eq_getElem hi]; simpa using hfi)
            rw [List.getElem?_eq_getElem (by simp at hi; omega)] at h3
            exact ⟨_, h3⟩) (by omega)
          simpa using this
        · cases h
    · cases h

/-- An argument that is a struct or an array. -/
theorem arg_agg {d b0 : Nat} {t : TypeId} {ts : List Ty} {v : Value} {r : Reach} {dd : DataW H} {ps : List MemPlace} (hf : flatTy P d t = some ts) (ht : (∃ fs, P.underlying t = some (.struct fs)) ∨ ∃ n e, P.underlying t = some (.array n e))
    (hval : Value.okWide P w r b0 t v) (h : DataW.Trod enc P w base spare held t v dd ps) : ∃ as, HasTys ts as ∧ RepV (fun _ => none) w (fun _ => False) (fun _ => False) (.agg as) v := by
  have hv : ∃ cs, v = .agg cs := by
    rcases ht with ⟨fs, ht⟩ | ⟨n, e, ht⟩ <;> simp only [Value.okWide, ht] at hval <;> exact ⟨_, hval.choose_spec.1⟩
  obtain ⟨cs, rfl⟩ := hv
  obtain ⟨fuel, hx⟩ := h
  obtain ⟨as, h1, h2, h3, h4⟩ := read_ty d hf hx
  simp only [Value.cells] at h2 h3 h4
  refine ⟨as, h1, .s ?_⟩
  have := RepS.agg (w := w) (X := fun _ => False) as cs.toList h2 h3 h4
  simpa using this
/-- An argument of one cell. -/
theorem arg_one {d : Nat} {t : TypeId} {ty : Ty} {v : Value} {dd : DataW H} {ps : List MemPlace} (hf : flatTy P d t = some [ty]) (hv : v.cells = #[v])
    (h : DataW.Trod enc P w base spare held t v dd ps) : ∃ a, HasTy ty a ∧ RepV (fun _ => none) w (fun _ => False) (fun _ => False) a v := by
  obtain ⟨fuel, hx⟩ := h
  rw [hv] at hx
  obtain ⟨as, h1, h2, h3, h4⟩ := read_ty d hf hx
  cases as with
  | nil => simp at h2
  | cons a as =>
    cases as with
    | cons b as => simp at h2
    | nil =>
      simp only [HasTys, and_true] at h1
      refine ⟨a, h1, .s ?_⟩
      have := h4 0 a v rfl rfl
      simpa using this
end
end Go.Proofs.Ytfnonledcniojaa
