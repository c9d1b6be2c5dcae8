/- What the parser's steps come to: a string, its end. Conditions: none. -/
import Derived.Test.YtkkcblfoaldckaaVt2
set_option linter.unusedVariables false
set_option linter.unusedSimpArgs false
set_option linter.unusedSectionVars false
set_option maxRecDepth 20000
set_option maxHeartbeats 2000000
namespace Go.Proofs.Ytkkcblfoaldckaa
open Go
variable (G : Nat → Option (List AV)) (o : ARow) (fl str told first void asked : Bool) (mark : Int) (s : ByteArray) (step pv tv : AV) (R : List ARow)
theorem aR_ext {F : Nat → Option AEnt} {f : Nat} {E : List AV → List ARow → Option (AV × List ARow)} (hf : F f = some (.ext E)) (args : List AV) (h : List ARow) : aR G F f args h = E args h := by
  unfold aR arunFn
  rw [hf]; rfl
theorem clone_rune_run (b f : Bool) (l : List Int) (hl : l.length ≤ 1000000) : aR G FT n_slices_Clone_rune [.data b 1 (rn l) f] [] = some (.own 0 1 0 l.length l.length, [⟨1, 1, true, rn l⟩]) := by
  rw [aR_ext G (F := FT) (f := n_slices_Clone_rune) rfl]
  simp [extClone, extCloneI, rn_len, hl]
theorem clone_rune_run0 (b f : Bool) : aR G FT n_slices_Clone_rune [.data b 1 [] f] [] = some (.own 0 1 0 0 0, [⟨1, 1, true, []⟩]) := clone_rune_run G b f [] (by simp)
theorem rn_take (l : List Int) : (rn l).take l.length = rn l := List.take_of_length_le (by simp [rn_len])

end Go.Proofs.Ytkkcblfoaldckaa
