/- MergeBytes: a round's assignments, by hand. Conditions: as the statement says. -/
import Derived.Test.YtfnonledcniojaaMb6
import Derived.Test.YtfnonledcniojaaMb5
import Derived.OwnWalkIn
import Derived.TacticsInMore
import Derived.LoopNIn
import Derived.LoopIn
set_option linter.unusedVariables false
set_option linter.unusedSimpArgs false
set_option linter.unusedSectionVars false
namespace Go.Proofs.Ytfnonledcniojaa
open Go Go.RowKit Go.Shelf
attribute [local go_sem] Oper.semAt_some
/-- The two assignments of a round. -/
def asgC : Code := .seq (.region 23 #[{ dst := some 12, op := .assign (.tmp 66), type := 3, pos := "law.go:92", after := #[], guard := none }] false) (.region 24 #[{ dst := some 13, op := .assign (.tmp 67), type := 5, pos := "law.go:92", after := #[], guard := none }] false)
theorem asg_hand (l n : Nat) (t : Array Value) (x y : Value) (W : World) (K : Act → World → Prop) (hx : t[66]? = some x) (hy : t[67]? = some y) (hs : t.size = 106) (hK : K { tmps := (t.setIfInBounds 12 x).setIfInBounds 13 y, defers := [] } W) :
    asgC.wpIn (Fence.wide.inRound l) n Try.prog (Exit.then K (fun _ _ _ => False)) { tmps := t, defers := [] } W := by
  unfold asgC
  have e1 : t.getD 66 undef = x := by simp [Array.getD_eq_getD_getElem?, hx]
  have e2 : (t.setIfInBounds 12 x).getD 67 undef = y := by
    rw [Array.getD_eq_getD_getElem?, Array.getElem?_setIfInBounds_ne (by decide), hy]; rfl
  gi_wp2
  exact hK
end Go.Proofs.Ytfnonledcniojaa
