/- From the small machine's answer to the row's: what a law's call comes to, and arguments' shapes. Conditions: as each statement says. -/
import Derived.Test.YtfnonledcniojaaAmArg
import Derived.Test.YtfnonledcniojaaAmBb
import Derived.Test.YtfnonledcniojaaInts
namespace Go.Proofs.Ytfnonledcniojaa
open Go Go.RowKit
theorem frz_bool {h : List ARow} {v : AV} {b : Bool} (hf : afreeze h v = some (.bool b)) : v = .bool b := by
  cases v with
  | bool c => simpa [afreeze] using hf
  | own id g s l c =>
    rw [y_frz_own] at hf
    obtain ⟨r, _, hf⟩ := opt_bind_some.1 hf
    split at hf <;> simp at hf
  | data bo k es f => cases bo <;> simp [afreeze] at hf
  | agg cs => rw [y_frz_agg] at hf; obtain ⟨x, _, hf⟩ := opt_map_some.1 hf; cases hf
  | tup cs => rw [y_frz_tup] at hf; obtain ⟨x, _, hf⟩ := opt_map_some.1 hf; cases hf
  | fn f a b => rw [y_frz_fn] at hf; split at hf <;> simp at hf
  | _ => simp [afreeze] at hf
theorem law_P {P : Program} {G : Nat → Option (List AV)} {F : Nat → Option AEnt} (hm : P.follows .mixedOrders = true) (hE : EntOk P G F) {f : Nat} {args : List AV} {xs : List Value} {w : World} (hr : aP G F f args = some (.bool true))
    (hG : ∀ g cs, G g = some cs → RepV (fun _ => none) w (fun _ => False) (fun _ => False) (.dptr cs) (.pointer (some ⟨g, 0, none⟩))) (hargs : RepL (RepV (fun _ => none) w (fun _ => False) (fun _ => False)) args xs) :
    Calls P f xs.toArray w fun e w' => e = .returned (.bool true) ∧ Below w.heap.size w w' := by
  obtain ⟨r, h1, h2⟩ := opt_bind_some.1 hr
  have hv := frz_bool h2
  obtain ⟨v, h'⟩ := r
  simp only at hv
  subst hv
  exact law_of hm hE h1 hG hargs
theorem repL_nil {R : AV → Value → Prop} : RepL R [] [] := ⟨rfl, fun i c v h => by simp at h⟩
theorem repL_cons {R : AV → Value → Prop} {a : AV} {as : List AV} {x : Value} {xs : List Value} (h : R a x) (k : RepL R as xs) : RepL R (a :: as) (x :: xs) := by
  refine ⟨by simp [k.1], fun i c v hc hv => ?_⟩
  cases i with
  | zero => simp at hc hv; subst hc hv; exact h
  | succ i => exact k.2 i c v (by simpa using hc) (by simpa using hv)
/-- A kind's range. -/
def InK (k : IntKind) (n : Int) : Prop := k.min ≤ n ∧ n ≤ k.max
theorem inK_i64 {n : Int} : InK .i64 n ↔ -9223372036854775808 ≤ n ∧ n ≤ 9223372036854775807 := by
  simp [InK, IntKind.min, IntKind.max, IntKind.signed, IntKind.bits]
theorem inK_i32 {n : Int} : InK .i32 n ↔ -2147483648 ≤ n ∧ n ≤ 2147483647 := by
  simp [InK, IntKind.min, IntKind.max, IntKind.signed, IntKind.bits]
theorem ty_int {k : IntKind} {a : AV} (h : HasTy (.int k) a) : ∃ n, a = .int k n ∧ InK k n := by
  simp only [HasTy] at h
  exact h
theorem tys_int1 {k : IntKind} {g : List AV} (h : HasTys [.int k] g) : ∃ n, g = [.int k n] ∧ InK k n := by
  cases g with
  | nil => simp [HasTys] at h
  | cons a g =>
    cases g with
    | cons b g => simp [HasTys] at h
    | nil =>
      simp only [HasTys, and_true] at h
      obtain ⟨n, rfl, hn⟩ := ty_int h
      exact ⟨n, rfl, hn⟩
theorem list_of {α : Type} {Q : α → Prop} {f : α → List AV} : ∀ (es : List (List AV)), (∀ g ∈ es, ∃ x, g = f x ∧ Q x) → ∃ l : List α, es = l.map f ∧ ∀ x ∈ l, Q x
  | [], _ => ⟨[], rfl, by simp⟩
  | g :: es, h => by
    obtain ⟨x, rfl, hx⟩ := h g (by simp)
    obtain ⟨l, rfl, hl⟩ := list_of es (fun g hg => h g (by simp [hg]))
    exact ⟨x :: l, rfl, fun y hy => by
      rcases List.mem_cons.1 hy with rfl | hy
      · exact hx
      · exact hl y hy⟩
theorem ty_ints {a : AV} (h : HasTy (.sl [.int .i64]) a) : ∃ l f, a = .data false 1 (ints l) f ∧ l.length ≤ 9223372036854775807 ∧ ∀ x ∈ l, InK .i64 x := by
  simp only [HasTy] at h
  obtain ⟨es, f, rfl, hl, he⟩ := h
  obtain ⟨l, rfl, hq⟩ := list_of (Q := InK .i64) (f := fun n => [AV.int .i64 n]) es (fun g hg => tys_int1 (he g hg))
  exact ⟨l, f, rfl, by simpa using hl, hq⟩
theorem tys_nil {g : List AV} (h : HasTys [] g) : g = [] := by cases g <;> simp [HasTys] at h ⊢
theorem tys_cons {t : Ty} {ts : List Ty} {g : List AV} (h : HasTys (t :: ts) g) : ∃ a as, g = a :: as ∧ HasTy t a ∧ HasTys ts as := by
  cases g with
  | nil => simp [HasTys] at h
  | cons a g => simp only [HasTys] at h; exact ⟨a, g, rfl, h.1, h.2⟩
end Go.Proofs.Ytfnonledcniojaa
