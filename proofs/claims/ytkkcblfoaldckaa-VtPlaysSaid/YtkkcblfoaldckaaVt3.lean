/- What the parser's steps come to: a control sequence. Conditions: none. -/
import Derived.Test.YtkkcblfoaldckaaVt2
set_option linter.unusedVariables false
set_option linter.unusedSimpArgs false
set_option linter.unusedSectionVars false
set_option maxRecDepth 20000
set_option maxHeartbeats 2000000
namespace Go.Proofs.Ytkkcblfoaldckaa
open Go
variable (G : Nat → Option (List AV)) (o : ARow) (fl first void : Bool) (mark : Int) (s : ByteArray)
theorem last_at (q : List Int) (x : Int) : (ints q ++ [[AV.int .i64 x]])[q.length]? = some [.int .i64 x] := by rw [← ints_len q]; simp
theorem last_set (q : List Int) (x y : Int) : (ints q ++ [[AV.int .i64 x]]).set q.length [.int .i64 y] = ints q ++ [[.int .i64 y]] := by rw [← ints_len q]; simp
theorem last_take (q : List Int) (x : Int) : (ints q ++ [[AV.int .i64 x]]).take (q.length + 1) = ints q ++ [[.int .i64 x]] := List.take_of_length_le (by simp [ints_len])
theorem i32_in {n : Int} (h1 : -2147483648 ≤ n) (h2 : n ≤ 2147483647) : IntKind.i32.wrap n = n := by rw [IntKind.wrap_i32]; omega

end Go.Proofs.Ytkkcblfoaldckaa
