/- Walks of how many columns a code point takes: the reference's in and Of. Conditions: none. -/
import Derived.Test.YtcjlkggdcnochaaDoorChecked
import Derived.WalkKit
import Derived.Test.YtcjlkggdcnochaaDoorBase
import Derived.WalkSpells
import Derived.WalkLawsBesides
import Derived.Deep.QuietTactic
import Derived.BigQuiet
import Derived.Lib.Hide
import Derived.FnLit
namespace Go.Proofs.YtcjlkggdcnochaaDoor
open Go.RowKit

def inB (c lo hi : Int) : Bool := decide (lo ≤ c) && decide (c ≤ hi)
theorem inB_iff (c lo hi : Int) : inB c lo hi = true ↔ lo ≤ c ∧ c ≤ hi := by simp [inB]

set_option maxHeartbeats 400000 in
theorem in_any (c lo hi : Int) (w : World) :
    Calls Tryd.prog 18 #[.int .i32 c, .int .i32 lo, .int .i32 hi] w fun e w' => e = .returned (.bool (inB c lo hi)) ∧ w = w' := by
  go_enter Tryd.func18, Tryd.ntmps18
  go_wp2
  all_goals (go_ret; exact ⟨ret_bool (by simp [inB]; omega), rfl⟩)

/-- how many columns a code point takes, as the document has it -/
def ofR (c : Int) : Int :=
  if c < 32 ∨ inB c 127 159 = true ∨ inB c 55296 57343 = true ∨ 1114111 < c then -1
  else if inB c 768 879 = true ∨ inB c 1155 1161 = true ∨ inB c 1425 1469 = true ∨ inB c 1552 1562 = true ∨ inB c 1611 1631 = true ∨ inB c 6832 6911 = true then 0
  else if inB c 7616 7679 = true ∨ inB c 8203 8207 = true ∨ inB c 8400 8447 = true ∨ inB c 65024 65039 = true ∨ inB c 65056 65071 = true then 0
  else if inB c 4352 4447 = true ∨ inB c 11904 12350 = true ∨ inB c 12353 42191 = true ∨ inB c 44032 55203 = true ∨ inB c 63744 64255 = true then 2
  else if inB c 65072 65135 = true ∨ inB c 65280 65376 = true ∨ inB c 65504 65510 = true ∨ inB c 127744 128591 = true ∨ inB c 129280 129535 = true ∨ inB c 131072 262141 = true then 2
  else 1

set_option maxHeartbeats 4000000 in
theorem refOf_any (c : Int) (w : World) :
    Calls Tryd.prog 10 #[.int .i32 c] w fun e w' => e = .returned (.int .i64 (ofR c)) ∧ w = w' := by
  go_enter Tryd.func10, Tryd.ntmps10
  go_wp2_with (go_at_call 18; refine (in_any _ _ _ _).mono ?_; rintro e w' ⟨rfl, rfl⟩)
  all_goals (go_ret; exact ⟨ret_int (by simp [ofR, *]), rfl⟩)
end Go.Proofs.YtcjlkggdcnochaaDoor
