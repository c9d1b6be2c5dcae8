/- How values of types all of whose parts are integers are read, over any program. Conditions: as each statement says. -/
import Derived.WalkKit
import Derived.ProofKit
import Derived.OpenShut
import Derived.Test.YtcjlkggdcnochaaDoorBase
set_option linter.unusedVariables false
set_option linter.unusedSimpArgs false
set_option linter.unusedSectionVars false
namespace Go.Proofs.YtcjlkggdcnochaaDoor
open Go Go.RowKit

/-- each cell is an integer of its kind that fits -/
def IntsOf (ks : List IntKind) (cs : List Value) : Prop := cs.length = ks.length ∧ ∀ (j : Nat) (k : IntKind), ks[j]? = some k → ∃ n, cs[j]? = some (Value.int k n) ∧ (Lit.int k n).wf = true

theorem IntsOf.append {k1 k2 : List IntKind} {cs : List Value} (hl : cs.length = k1.length + k2.length) (h1 : IntsOf k1 (cs.take k1.length)) (h2 : IntsOf k2 (cs.drop k1.length)) : IntsOf (k1 ++ k2) cs := by
  refine ⟨by simpa using hl, fun j k hj => ?_⟩
  by_cases h : j < k1.length
  · rw [List.getElem?_append_left h] at hj
    obtain ⟨n, hn, hw⟩ := h1.2 j k hj
    rw [List.getElem?_take, if_pos h] at hn
    exact ⟨n, hn, hw⟩
  · rw [List.getElem?_append_right (by omega)] at hj
    obtain ⟨n, hn, hw⟩ := h2.2 _ k hj
    rw [List.getElem?_drop, Nat.add_sub_cancel' (by omega)] at hn
    exact ⟨n, hn, hw⟩

section
variable {H : Type} {enc : TypeId × Value → H} {P : Program} {w : World} {base : Nat} {spare : Nat → Bool} {held : Bool}

theorem IntsOf.one {k : IntKind} {cs : List Value} {n : Nat} (h : IntsOf (List.replicate n k) cs) : ∃ l : List Int, l.length = n ∧ cs = l.map (Value.int k) ∧ ∀ x ∈ l, (Lit.int k x).wf = true := by
  have hl : cs.length = n := by simpa using h.1
  refine ⟨cs.map (fun v => match v with | .int _ q => q | _ => 0), by simpa using hl, ?_, ?_⟩
  · apply List.ext_getElem?
    intro j
    by_cases hj : j < n
    · obtain ⟨q, hq, _⟩ := h.2 j k (by rw [List.getElem?_replicate, if_pos hj])
      simp [hq]
    · rw [List.getElem?_eq_none (by omega), List.getElem?_eq_none (by simp; omega)]
  · intro x hx
    simp only [List.mem_map] at hx
    obtain ⟨v, hv, rfl⟩ := hx
    obtain ⟨j, hj, rfl⟩ := List.mem_iff_getElem.1 hv
    obtain ⟨q, hq, hw⟩ := h.2 j k (by rw [List.getElem?_replicate, if_pos (by omega)])
    rw [List.getElem?_eq_getElem hj] at hq
    simp only [Option.some.injEq] at hq
    rw [hq]; exact hw
end

end Go.Proofs.YtcjlkggdcnochaaDoor
