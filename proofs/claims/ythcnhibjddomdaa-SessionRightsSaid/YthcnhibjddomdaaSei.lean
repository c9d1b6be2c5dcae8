/- Sessions: are two the same? Conditions: as each statement says. -/
import Derived.Test.YthcnhibjddomdaaSea
set_option linter.unusedVariables false
set_option linter.unusedSimpArgs false
set_option linter.unusedSectionVars false
set_option maxRecDepth 20000
set_option maxHeartbeats 8000000
namespace Go.Proofs.Ythcnhibjddomdaa
open Go
variable (G : Nat → Option (List AV))
/-! ### Pieces -/
def bso (l : List Int) : List UInt8 := l.map fun x => UInt8.ofNat x.toNat
theorem asb_bso : ∀ l : List Int, asBytes (byt l) = some (bso l)
  | [] => rfl
  | x :: l => by
    have := asb_bso l
    unfold byt bso at *
    rw [List.map_cons, asBytes, this]; rfl
def bEq (a b : List Int) : Bool := (⟨(bso a).toArray⟩ : ByteArray) == ⟨(bso b).toArray⟩
theorem bEq_self (a : List Int) : bEq a a = true := by
  show ((bso a).toArray == (bso a).toArray) = true
  simp
/-! ### Windows, counts -/
end Go.Proofs.Ythcnhibjddomdaa
