/- Entries that are told outright. Conditions: none. -/
import Derived.Test.YtfnonledcniojaaAmB
namespace Go.Proofs.Ytfnonledcniojaa
open Go
/-- slices.Clone, bytes.Clone. -/
def extClone (k : Nat) : List AV → List ARow → Option (AV × List ARow)
  | [.data _ k' es _], [] => if k' = k ∧ es.length ≤ 1000000 then some (.own 0 1 0 es.length es.length, [⟨k, 1, true, es⟩]) else none
  | _, _ => none
/-- A table of one function. -/
def oneF (n : Nat) (a : AFn) : Nat → Option AEnt := fun f => if f = n then some (.fn a) else none
end Go.Proofs.Ytfnonledcniojaa
