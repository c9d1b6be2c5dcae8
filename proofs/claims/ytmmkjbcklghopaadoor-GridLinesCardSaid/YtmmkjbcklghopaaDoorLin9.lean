/- What the document does with a line. Conditions: none. -/
import Derived.Test.YtmmkjbcklghopaaDoorLin5
set_option linter.unusedVariables false
set_option linter.unusedSimpArgs false
set_option linter.unusedSectionVars false
set_option maxRecDepth 20000
set_option maxHeartbeats 2000000
namespace Go.Proofs.YtmmkjbcklghopaaDoor
open Go
variable (G : Nat → Option (List AV))
def tearC (l : List Cl) (a i : Nat) : Cl := if (i = a ∧ (at' l i).h = 2) ∨ (i + 1 = a ∧ (at' l i).h = 1) then blankC (at' l i).p.k else at' l i
def preR (l : List Cl) (a i : Nat) : List Cl := (List.range i).map (tearC l a)
theorem preR_len (l : List Cl) (a i : Nat) : (preR l a i).length = i := by simp [preR]
def tearR (l : List Cl) (a : Nat) : List Cl := preR l a l.length
theorem tearR_len (l : List Cl) (a : Nat) : (tearR l a).length = l.length := preR_len l a _
end Go.Proofs.YtmmkjbcklghopaaDoor
