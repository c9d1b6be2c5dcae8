/- A nil slice that was read has no length and no room. Conditions: none. -/
import Derived.Test.YtcjlkggdcnochaaDoorRead
namespace Go.Proofs.YtcjlkggdcnochaaDoor
open Go Go.RowKit
theorem nil_read {H : Type} {enc : TypeId × Value → H} {P : Program} {w : World} {base : Nat} {spare : Nat → Bool} {held : Bool} {t e : Nat} {n c : Nat} {dd : DataW H} {ps : List MemPlace} (ht : P.underlying t = some (.slice e))
    (h : DataW.Trod enc P w base spare held t (.slice none n c) dd ps) : n = 0 ∧ c = 0 := by
  obtain ⟨fuel, hx⟩ := h
  rcases DataW.trod_slice ht hx with ⟨hcs, _⟩ | ⟨a, len, cap, elems, rest, m, _, hcs, _⟩
  · simp [Value.cells] at hcs; exact hcs
  · simp [Value.cells] at hcs
end Go.Proofs.YtcjlkggdcnochaaDoor
