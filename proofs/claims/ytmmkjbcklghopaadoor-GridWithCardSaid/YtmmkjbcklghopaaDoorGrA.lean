/- Rows that go up and down, twice; GridTwice, GridBack. Conditions: none. -/
import Derived.Test.YtmmkjbcklghopaaDoorGr8
import Derived.Test.YtmmkjbcklghopaaDoorGr9
set_option linter.unusedVariables false
set_option linter.unusedSimpArgs false
set_option linter.unusedSectionVars false
set_option maxRecDepth 20000
set_option maxHeartbeats 4000000
namespace Go.Proofs.YtmmkjbcklghopaaDoor
open Go
theorem gL_ext {a b : List Rw} (hl : a.length = b.length) (h : ∀ i, i < a.length → (rat a i).1 = (rat b i).1) : gL a = gL b :=
  List.ext_getElem (by simp [gL, hl]) fun i h1 h2 => by
    have hi : i < a.length := by simpa [gL] using h1
    have := h i hi
    simpa [gL, rat, hi, ← hl] using this
end Go.Proofs.YtmmkjbcklghopaaDoor
