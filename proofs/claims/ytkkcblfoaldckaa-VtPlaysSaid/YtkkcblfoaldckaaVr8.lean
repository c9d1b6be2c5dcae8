/- The document's parser: what is held, and what one code point makes of it. Conditions: none. -/
import Derived.Test.YtkkcblfoaldckaaVr7
set_option linter.unusedVariables false
set_option linter.unusedSimpArgs false
set_option linter.unusedSectionVars false
set_option maxRecDepth 20000
set_option maxHeartbeats 4000000
namespace Go.Proofs.Ytkkcblfoaldckaa
open Go
variable (G : Nat → Option (List AV)) (g : Nat) (es : List (List AV)) (fl : Bool)
def rTold (H : List Int) : List Act' := if H[1]? = some 93 then [oscT (heldT H)] else []
def rOne (H : List Int) (c : Int) : List Act' × List Int :=
  if c = 27 then (rTold H, [27])
  else if H = [] then (wordT c, [])
  else if c = 24 ∨ c = 26 then (wordT c, [])
  else match H[1]? with
    | none => if c < 32 ∨ c = 127 then (wordT c, H) else if 160 ≤ c then (wordT c, []) else if c < 48 ∨ c = 91 ∨ isStr c = true then ([], H ++ [c]) else (escT [c] c, [])
    | some d => if isStr d = true then (if c = 7 then (rTold H, []) else if 32 ≤ c ∧ c ≠ 127 then ([], H ++ [c]) else ([], H))
      else if c < 32 ∨ c = 127 then (wordT c, H) else if 160 ≤ c then (wordT c, [])
      else if d = 91 then (if c < 64 then ([], H ++ [c]) else (csiT ((H ++ [c]).drop 2) c, []))
      else if c < 48 then ([], H ++ [c]) else (escT ((H ++ [c]).drop 1) c, [])
/-- What is held may be. -/
def rOk (H : List Int) : Prop := H.length ≤ 9000 ∧ (∀ x ∈ H, x < 1000 ∨ ∃ d, H[1]? = some d ∧ isStr d = true)
theorem held_len (H : List Int) (h : 2 ≤ H.length) : (heldT H).length = min H.length 66 - 2 := by
  simp only [heldT, List.length_drop, List.length_take]; omega
end Go.Proofs.Ytkkcblfoaldckaa
