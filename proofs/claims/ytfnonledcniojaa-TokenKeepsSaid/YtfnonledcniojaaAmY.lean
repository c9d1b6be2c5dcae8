/- Regions in any order that the text allows. Conditions: none. -/
import Derived.Test.YtfnonledcniojaaAmX
namespace Go.Proofs.Ytfnonledcniojaa
open Go Go.RowKit
section
variable {P : Program} {G : Nat → Option (List AV)} {raw : ARaw} {ρ ρ' : Rho} {w w' : World} {S O O' : Nat → Prop} {env : AEnv} {h h' : List ARow} {a : Act} {ops : Array Oper} {A : List AOper}

/-- The places of the first n rows alone. -/
def cutR (ρ : Rho) (n : Nat) : Rho := fun id => if id < n then ρ id else none
theorem cutR_lt {n id : Nat} (hi : id < n) : cutR ρ n id = ρ id := if_pos hi
theorem cutR_ge {n id : Nat} (hi : n ≤ id) : cutR ρ n id = none := if_neg (Nat.not_lt.2 hi)
theorem cutR_some {n id : Nat} {y : Nat × Option Pl} (hy : cutR ρ n id = some y) : id < n ∧ ρ id = some y := by
  unfold cutR at hy
  split at hy
  · rename_i hi; exact ⟨hi, hy⟩
  · cases hy
theorem cutR_all {n : Nat} (hd : ∀ id, n ≤ id → ρ id = none) : cutR ρ n = ρ := by
  funext id
  unfold cutR
  split
  · rfl
  · rename_i hi; exact (hd id (by omega)).symm
theorem ext_cut {n m : Nat} (hnm : n ≤ m) : Ext (cutR ρ n) (cutR ρ m) := fun id g pl hid => by
  obtain ⟨h1, h2⟩ := cutR_some hid
  exact ⟨g, pl, by rw [cutR_lt (by omega)]; exact h2, Nat.le_refl _, fun _ => rfl⟩
theorem Ext.cut (e : Ext ρ ρ') (n : Nat) : Ext (cutR ρ n) (cutR ρ' n) := fun id g pl hid => by
  obtain ⟨h1, h2⟩ := cutR_some hid
  obtain ⟨g', pl', h3, h4⟩ := e id g pl h2
  exact ⟨g', pl', by rw [cutR_lt h1]; exact h3, h4⟩
theorem KInv.cut {n : Nat} (hk : KInv ρ h) : KInv (cutR ρ n) h := fun id g p r hid hr => hk id g p r (cutR_some hid).2 hr
/-- Addresses of what is there hang on no row. -/
theorem dptr_any {cs : List AV} {x : Value} (hr : RepV ρ w S O (.dptr cs) x) : RepV ρ' w S O (.dptr cs) x := by
  obtain ⟨b, off, val, rfl, h1, h2, h3, h4⟩ := rv_dptr hr
  exact .dptr cs b off val h1 h2 h3 h4
/-- More rows that have no place. -/
theorem Heap.more (H : Heap ρ w S O h) (e : List ARow) : Heap ρ w S O (h ++ e) :=
  ⟨fun id g pl hid => by
    obtain ⟨r, h1, h2⟩ := H.row id g pl hid
    exact ⟨r, by rw [List.getElem?_append_left (H.lt hid)]; exact h1, h2⟩, H.inj, H.bd⟩

/-- The states of a run through the operations in the text's order. -/
structure Trace (G : Nat → Option (List AV)) (raw : ARaw) (A : List AOper) (T : Nat → ASt) (V : Nat → AV) : Prop where
  env : ∀ k ao, A[k]? = some ao → (T (k + 1)).env = aput (T k).env ao.dst (V k)
  run : ∀ k ao, A[k]? = some ao → ∃ b, goes ao (T k).env = some b ∧ ((b = true ∧ aexecOp G raw (T k).env (T k).h ao.op = some (V k, (T (k + 1)).h)) ∨ (b = false ∧ V k = .tup [] ∧ (T (k + 1)).h = (T k).h))
theorem trace_exists : ∀ {A : List AOper} {st st' : ASt}, aops G raw A st = some st' → ∃ T V, Trace G raw A T V ∧ T 0 = st ∧ T A.length = st'
  | [], st, st', hs => by
    cases hs
    exact ⟨fun _ => st, fun _ => .unk, ⟨fun k ao h => by simp at h, fun k ao h => by simp at h⟩, rfl, rfl⟩
  | ao :: A, st, st', hs => by
    obtain ⟨st1, h1, hs⟩ := opt_bind_some.1 hs
    obtain ⟨T, V, t1, t2, t3⟩ := trace_exists hs
    rw [astep_goes] at h1
    obtain ⟨b, hb, h1⟩ := opt_bind_some.1 h1
    obtain ⟨v, e1, e2⟩ : ∃ v, st1.env = aput st.env ao.dst v ∧ ((b = true ∧ aexecOp G raw st.env st.h ao.op = some (v, st1.h)) ∨ (b = false ∧ v = .tup [] ∧ st1.h = st.h)) := by
      cases b with
      | true =>
        simp only [if_true] at h1
        obtain ⟨r, hr, e⟩ := opt_map_some.1 h1
        subst e
        exact ⟨r.1, rfl, .inl ⟨rfl, hr⟩⟩
      | false =>
        simp only [Bool.false_eq_true, if_false] at h1
        cases h1
        exact ⟨.tup [], rfl, .inr ⟨rfl, rfl, rfl⟩⟩
    refine ⟨fun k => match k with | 0 => st | k + 1 => T k, fun k => match k with | 0 => v | k + 1 => V k, ⟨fun k o hk => ?_, fun k o hk => ?_⟩, rfl, by simpa using t3⟩
    · cases k with
      | zero => simp at hk; subst hk; simpa [t2] using e1
      | succ k => exact t1.env k o (by simpa using hk)
    · cases k with
      | zero => simp at hk; subst hk; exact ⟨b, hb, by simpa [t2] using e2⟩
      | succ k => exact t1.run k o (by simpa using hk)
theorem trace_k (KL : ∀ f as h r, raw f as h = some r → KeepK h r.2) {T : Nat → ASt} {V : Nat → AV} (t : Trace G raw A T V) : ∀ (m i : Nat), i + m ≤ A.length → KeepK (T i).h (T (i + m)).h
  | 0, _, _ => .refl _
  | m + 1, i, hi => by
    have h1 := trace_k KL t m i (by omega)
    obtain ⟨ao, ha⟩ : ∃ ao, A[i + m]? = some ao := ⟨_, List.getElem?_eq_getElem (by omega)⟩
    obtain ⟨b, _, hb | hb⟩ := t.run _ ao ha
    · exact h1.trans (exec_k KL hb.2)
    · rw [show i + (m + 1) = i + m + 1 from rfl, hb.2.2]; exact h1
/-- How many. -/
theorem trace_len (KL : ∀ f as h r, raw f as h = some r → KeepK h r.2) {T : Nat → ASt} {V : Nat → AV} (t : Trace G raw A T V) (m i : Nat) (hi : i + m ≤ A.length) : (T i).h.length ≤ (T (i + m)).h.length := (trace_k KL t m i hi).len
/-- No operation that changes rows between: the rows stay, and more come. -/
theorem trace_grow {T : Nat → ASt} {V : Nat → AV} (t : Trace G raw A T V) : ∀ (m i : Nat), i + m ≤ A.length → (∀ k ao, i ≤ k → k < i + m → A[k]? = some ao → ao.op.cls ≠ .change) → ∃ e, (T (i + m)).h = (T i).h ++ e
  | 0, _, _, _ => ⟨[], by simp⟩
  | m + 1, i, hi, hn => by
    obtain ⟨e, he⟩ := trace_grow t m i (by omega) fun k ao h1 h2 h3 => hn k ao h1 (by omega) h3
    obtain ⟨ao, ha⟩ : ∃ ao, A[i + m]? = some ao := ⟨_, List.getElem?_eq_getElem (by omega)⟩
    have hc := hn _ ao (by omega) (by omega) ha
    obtain ⟨b, _, hb | hb⟩ := t.run _ ao ha
    · have hx := hb.2
      cases hcl : ao.op.cls with
      | free => exact ⟨e, by rw [show i + (m + 1) = i + m + 1 from rfl, free_h hcl hx]; exact he⟩
      | new =>
        obtain ⟨e', he'⟩ := new_h hcl hx
        exact ⟨e ++ e', by rw [show i + (m + 1) = i + m + 1 from rfl, he', he, List.append_assoc]⟩
      | change => exact absurd hcl hc
    · exact ⟨e, by rw [show i + (m + 1) = i + m + 1 from rfl, hb.2.2]; exact he⟩
/-- What a slot holds at a point of the text. -/
theorem trace_look {T : Nat → ASt} {V : Nat → AV} (t : Trace G raw A T V) (s : Nat) : ∀ (m i : Nat), i + m ≤ A.length → (∀ k ao, i ≤ k → k < i + m → A[k]? = some ao → ao.dst ≠ some s) → look (T (i + m)).env s = look (T i).env s
  | 0, _, _, _ => rfl
  | m + 1, i, hi, hn => by
    obtain ⟨ao, ha⟩ : ∃ ao, A[i + m]? = some ao := ⟨_, List.getElem?_eq_getElem (by omega)⟩
    have hd := hn _ ao (by omega) (by omega) ha
    rw [show i + (m + 1) = i + m + 1 from rfl, t.env _ ao ha]
    rw [← trace_look t s m i (by omega) fun k ao h1 h2 h3 => hn k ao h1 (by omega) h3]
    cases e : ao.dst with
    | none => rfl
    | some d =>
      rw [e] at hd
      simp only [aput, look]
      rw [if_neg (fun e => hd (by rw [e]))]
end
end Go.Proofs.Ytfnonledcniojaa
