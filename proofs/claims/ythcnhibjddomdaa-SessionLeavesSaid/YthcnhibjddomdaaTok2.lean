/- What token.Place, token.Ask and token.Free come to. Conditions: none. -/
import Derived.Test.YthcnhibjddomdaaTok1
set_option linter.unusedVariables false
set_option linter.unusedSimpArgs false
set_option linter.unusedSectionVars false
set_option maxRecDepth 20000
set_option maxHeartbeats 1000000
namespace Go.Proofs.Ythcnhibjddomdaa
open Go
variable (G : Nat → Option (List AV))
theorem aR_ext {F : Nat → Option AEnt} {f : Nat} {E : List AV → List ARow → Option (AV × List ARow)} (hf : F f = some (.ext E)) (args : List AV) (h : List ARow) : aR G F f args h = E args h := by
  unfold aR arunFn
  rw [hf]; rfl
theorem clone_int_run (b f : Bool) (l : List Int) (hl : l.length ≤ 1000000) : aR G FT n_slices_Clone_int [.data b 1 (ints l) f] [] = some (.own 0 1 0 l.length l.length, [⟨1, 1, true, ints l⟩]) := by
  rw [aR_ext G (F := FT) (f := n_slices_Clone_int) (E := extClone 1) rfl]
  simp [extClone, ints_len, hl]
/-- A token as the small machine's value. -/
def tokV (h : Int) (q : List Int) : AV := .agg [.int .i64 h, .data false 1 (ints q) false]
end Go.Proofs.Ythcnhibjddomdaa
