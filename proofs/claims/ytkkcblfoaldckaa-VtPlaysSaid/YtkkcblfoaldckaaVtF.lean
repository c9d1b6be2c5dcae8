/- VtLimits: the walk. Conditions: none. -/
import Derived.Test.YtkkcblfoaldckaaVtE
import Derived.Test.YtkkcblfoaldckaaM3
set_option linter.unusedVariables false
set_option linter.unusedSimpArgs false
set_option linter.unusedSectionVars false
set_option maxRecDepth 20000
set_option maxHeartbeats 4000000
namespace Go.Proofs.Ytkkcblfoaldckaa
open Go
variable (G : Nat → Option (List AV))
theorem actG_at {l : List Act'} {i : Nat} (h : i < l.length) : (actG l)[i]? = some l[i].g := by simp [actG, h]
theorem ty_runes {a : AV} (h : HasTy (.sl [.int .i32]) a) : ∃ l f, a = .data false 1 (rn l) f ∧ ∀ x ∈ l, InK .i32 x := by
  simp only [HasTy] at h
  obtain ⟨es, f, rfl, hl, he⟩ := h
  obtain ⟨l, rfl, hq⟩ := list_of (Q := InK .i32) (f := fun n => [AV.int .i32 n]) es (fun g hg => tys_int1 (he g hg))
  exact ⟨l, f, rfl, hq⟩
end Go.Proofs.Ytkkcblfoaldckaa
