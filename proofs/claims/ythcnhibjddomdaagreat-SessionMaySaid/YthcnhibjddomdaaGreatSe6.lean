/- Sessions: a copy. Conditions: as each statement says. -/
import Derived.Test.YthcnhibjddomdaaGreatSe5
set_option linter.unusedVariables false
set_option linter.unusedSimpArgs false
set_option linter.unusedSectionVars false
set_option maxRecDepth 20000
set_option maxHeartbeats 8000000
namespace Go.Proofs.YthcnhibjddomdaaGreat
open Go
variable (G : Nat → Option (List AV))
def tl (s : Ses) : List AV := cellsW s.w ++ (.int .i64 s.r :: .int .i64 s.c :: cellsK s.k)
theorem sC_eq (s : Ses) : sC s = .data false 2 (mbs s.mem) s.f1 :: .int .i64 s.h :: .data false 1 (ints s.tq) s.f2 :: .data false 3 (pcs s.q) s.f3 :: tl s := rfl
theorem tl_len (s : Ses) : (tl s).length = 29 := rfl
theorem tl_ids (s : Ses) : AV.idsL (tl s) = [] := by simp [tl, cellsW, cellsK, AV.idsL, AV.ids]
theorem tl_st (s : Ses) : AV.stableL (tl s) = true := by simp [tl, cellsW, cellsK, AV.stableL, AV.stable]
theorem tl_v (s : Ses) (h : List ARow) : aviewL h (tl s) = some (tl s) := by simp [tl, cellsW, cellsK, aviewL, aview]
theorem tl_f (s : Ses) (h : List ARow) : afreezeL h (tl s) = some (tl s) := by simp [tl, cellsW, cellsK, afreezeL, afreeze]
theorem tl_ren (s : Ses) (h : List ARow) (lo off : Nat) (o : List Nat) : AV.renL h lo off o (tl s) = tl s := by simp [tl, cellsW, cellsK, AV.renL, AV.ren]
theorem tl_take (s : Ses) : (tl s).take 29 = tl s := rfl
end Go.Proofs.YthcnhibjddomdaaGreat
