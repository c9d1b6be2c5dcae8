/- Lists of numbers as the small machine's cells. Conditions: none. -/
import Derived.Test.YtfnonledcniojaaAmZz
namespace Go.Proofs.Ytfnonledcniojaa
open Go
def ints (l : List Int) : List (List AV) := l.map fun n => [.int .i64 n]
theorem ints_nil : ints [] = [] := rfl
theorem ints_cons (x : Int) (l : List Int) : ints (x :: l) = [.int .i64 x] :: ints l := rfl
theorem ints_append (l m : List Int) : ints (l ++ m) = ints l ++ ints m := by simp [ints]
theorem ints_len (l : List Int) : (ints l).length = l.length := by simp [ints]
theorem ints_get? (l : List Int) (i : Nat) : (ints l)[i]? = (l[i]?).map fun n => [.int .i64 n] := by simp [ints]
theorem ints_at {l : List Int} {i : Nat} (h : i < l.length) : (ints l)[i]? = some [.int .i64 l[i]] := by simp [ints, h]
theorem ints_set (l : List Int) (i : Nat) (x : Int) : (ints l).set i [.int .i64 x] = ints (l.set i x) := by simp [ints, List.map_set]
theorem ints_take (l : List Int) (i : Nat) : (ints l).take i = ints (l.take i) := by simp [ints, List.map_take]
theorem ints_drop (l : List Int) (i : Nat) : (ints l).drop i = ints (l.drop i) := by simp [ints, List.map_drop]
theorem ints_one (x : Int) : [[AV.int .i64 x]] = ints [x] := rfl
theorem wrap_nat {n : Nat} (h : n < 9223372036854775807) : IntKind.i64.wrap ((n : Int) + 1) = ((n + 1 : Nat) : Int) := by
  rw [wrap_in _ (by omega) (by omega)]; rfl
/-- A loop's head once more: what is kept at it is all that counts. -/
theorem loop_gc {G : Nat → Option (List AV)} {F : Nat → Option AEnt} {base : Nat} {live : List Nat} {b : ACode} {st s : ASt} (h1 : agc base live st = some s) (h2 : agc base live s = some s) : aE G F base (.loop live b) st = aE G F base (.loop live b) s := by
  rw [aE_loop, aE_loop, h1, h2]
end Go.Proofs.Ytfnonledcniojaa
