/-
  No cell of these rows narrows 'for every input' (looked for: loops, veiled, ifaces, maps, wideKeys, modest, calm, conditions, laid).
  DERIVED. THE GIVEN ROWS OF THIS SEAT. 3 by the template 'for every input the law returns true; each argument reads behind the call as it read before'; 0 by the template 'total and deterministic' (their statements: YthcnhibjddomdaaTotals.lean).
  GIVEN WITH THE SEED: the statements are not yours to turn. If you find one false, say at which input.
  Laid BY PROGRAM, IN A SANDBOX (cutbox-rows.mjs): the forced cells as the released guide's own fill.sh prints them over the translation 3b4610b6e78d8670… (all of the seat's roots in one cut). By AI agents, Wed Nov 11 2026. No macro, syntax, notation, axiom, sorry.
-/
import Derived.Test.YthcnhibjddomdaaChecked
import GoSem.Claim
import GoSem.ClaimJoined
import GoSem.ClaimMapViews
import Derived.JoinedTies
import Derived.KernelRfl
namespace Go.Proofs.Ythcnhibjddomdaa
/- THE CELL 'sum', in the pinned program and in every row, IS THE sha256 OF THE DUMP (.gsa) THAT YthcnhibjddomdaaProg.lean LOADS. Nothing in Lean hashes anything: it is a label: what it is worth is what the hold of that sum in a sandbox is worth. -/
noncomputable def Try.pinned : Pinned := { name := "ythcnhibjddomdaa", sum := "3b4610b6e78d8670084f3fcf33be0e4fea2f68b67bbb570b92896f4cd915c5e9", checked := Try.checked }
namespace Rows
def none {H : Type} : Left H := { results := [], args := [] }

/-- 'oriellaw30.SessionRights': WHATEVER THE INPUT: true; the input reads as it did. -/
def sessionRightsSpec : ChangeSpec := { name := "sessionRights", fn := fun _ => fun
  | [d] => { results := [.lit (.bool true)], args := [d] }
  | _ => none }
def sessionRightsRow : OpenClaim := { program := "ythcnhibjddomdaa", sum := "3b4610b6e78d8670084f3fcf33be0e4fea2f68b67bbb570b92896f4cd915c5e9", func := "oriel/oriellaw30.SessionRights", spec := "sessionRights", inPlace := ["slices.overlaps[oriel/api.Member]"], unfollowed := true, recurses := true, apart := false }
def SessionRightsSaid : Prop := sessionRightsRow.holds Try.pinned (OpenSpec.ofChange sessionRightsSpec)

/-- ITS FALSE NEIGHBOUR: 'it returns false'. Refute it at one input. -/
def sessionRightsWrong : ChangeSpec := { name := "sessionRights", fn := fun _ => fun
  | [d] => { results := [.lit (.bool false)], args := [d] }
  | _ => none }
def SessionRightsWrongFalsely : Prop := sessionRightsRow.holds Try.pinned (OpenSpec.ofChange sessionRightsWrong)

/-- 'oriellaw30.SessionLeaves': WHATEVER THE INPUT: true; the input reads as it did. -/
def sessionLeavesSpec : ChangeSpec := { name := "sessionLeaves", fn := fun _ => fun
  | [d1, d2] => { results := [.lit (.bool true)], args := [d1, d2] }
  | _ => none }
def sessionLeavesRow : OpenClaim := { program := "ythcnhibjddomdaa", sum := "3b4610b6e78d8670084f3fcf33be0e4fea2f68b67bbb570b92896f4cd915c5e9", func := "oriel/oriellaw30.SessionLeaves", spec := "sessionLeaves", inPlace := ["slices.overlaps[oriel/api.Member]"], unfollowed := true, recurses := true, apart := false }
def SessionLeavesSaid : Prop := sessionLeavesRow.holds Try.pinned (OpenSpec.ofChange sessionLeavesSpec)

/-- ITS FALSE NEIGHBOUR: 'it returns false'. Refute it at one input. -/
def sessionLeavesWrong : ChangeSpec := { name := "sessionLeaves", fn := fun _ => fun
  | [d1, d2] => { results := [.lit (.bool false)], args := [d1, d2] }
  | _ => none }
def SessionLeavesWrongFalsely : Prop := sessionLeavesRow.holds Try.pinned (OpenSpec.ofChange sessionLeavesWrong)

/-- 'oriellaw30.SessionOthers': WHATEVER THE INPUT: true; the input reads as it did. -/
def sessionOthersSpec : ChangeSpec := { name := "sessionOthers", fn := fun _ => fun
  | [d1, d2, d3] => { results := [.lit (.bool true)], args := [d1, d2, d3] }
  | _ => none }
def sessionOthersRow : OpenClaim := { program := "ythcnhibjddomdaa", sum := "3b4610b6e78d8670084f3fcf33be0e4fea2f68b67bbb570b92896f4cd915c5e9", func := "oriel/oriellaw30.SessionOthers", spec := "sessionOthers", inPlace := ["slices.overlaps[oriel/api.Member]"], unfollowed := true, recurses := true, apart := false }
def SessionOthersSaid : Prop := sessionOthersRow.holds Try.pinned (OpenSpec.ofChange sessionOthersSpec)

/-- ITS FALSE NEIGHBOUR: 'it returns false'. Refute it at one input. -/
def sessionOthersWrong : ChangeSpec := { name := "sessionOthers", fn := fun _ => fun
  | [d1, d2, d3] => { results := [.lit (.bool false)], args := [d1, d2, d3] }
  | _ => none }
def SessionOthersWrongFalsely : Prop := sessionOthersRow.holds Try.pinned (OpenSpec.ofChange sessionOthersWrong)

/- THE SECOND FORM. 'bulk': how many values and letters a reading holds, each counted each time it is reached (what is shared counts as often as it is met; a slice's spare places count too). A statement '..UptoSaid' is the law's where the arguments, and the package variables that the reading takes, are together of bulk at most 1048576: NARROWER than '..Said'. Prove '..Said' where nothing that the law and all that it calls make is longer than what came in: it says more and counts as full. Else prove '..UptoSaid'. A law counts once. -/
mutual
def uptoBulk {H : Type} : DataW H → Nat
  | .lit (.string bytes) => bytes.length + 1
  | .lit _ => 1
  | .nil => 1
  | .ptr d => uptoBulk d + 1
  | .slice elems spare => uptoBulkAll elems + uptoBulkAll spare + 1
  | .agg parts => uptoBulkAll parts + 1
  | .iface _ d => uptoBulk d + 1
  | .map entries => uptoBulkEntries entries + 1
  | .held _ => 1
def uptoBulkAll {H : Type} : List (DataW H) → Nat
  | [] => 0
  | d :: r => uptoBulk d + uptoBulkAll r
def uptoBulkEntries {H : Type} : List (Lit × DataW H) → Nat
  | [] => 0
  | x :: r => uptoBulkEntry x + uptoBulkEntries r
def uptoBulkEntry {H : Type} : Lit × DataW H → Nat
  | (.string bytes, d) => bytes.length + uptoBulk d + 1
  | (_, d) => uptoBulk d + 1
 end
def uptoSmall : (H : Type) → List (DataW H) → Bool := fun _ ds => decide (uptoBulkAll ds ≤ 1048576)
def OpenSpec.upto (s : _root_.Go.ChangeSpec) : _root_.Go.OpenSpec := { _root_.Go.OpenSpec.ofChange s with cond := some uptoSmall }

/-- 'oriellaw30.SessionRights', WHERE WHAT IT READS IS OF BULK AT MOST 1048576: true; the input reads as it did. -/
def sessionRightsUptoRow : OpenClaim := { program := "ythcnhibjddomdaa", sum := "3b4610b6e78d8670084f3fcf33be0e4fea2f68b67bbb570b92896f4cd915c5e9", func := "oriel/oriellaw30.SessionRights", spec := "sessionRights", inPlace := ["slices.overlaps[oriel/api.Member]"], unfollowed := true, recurses := true, apart := false, narrowed := true }
def SessionRightsUptoSaid : Prop := sessionRightsUptoRow.holds Try.pinned (OpenSpec.upto sessionRightsSpec)

/-- 'oriellaw30.SessionLeaves', WHERE WHAT IT READS IS OF BULK AT MOST 1048576: true; the input reads as it did. -/
def sessionLeavesUptoRow : OpenClaim := { program := "ythcnhibjddomdaa", sum := "3b4610b6e78d8670084f3fcf33be0e4fea2f68b67bbb570b92896f4cd915c5e9", func := "oriel/oriellaw30.SessionLeaves", spec := "sessionLeaves", inPlace := ["slices.overlaps[oriel/api.Member]"], unfollowed := true, recurses := true, apart := false, narrowed := true }
def SessionLeavesUptoSaid : Prop := sessionLeavesUptoRow.holds Try.pinned (OpenSpec.upto sessionLeavesSpec)

/-- 'oriellaw30.SessionOthers', WHERE WHAT IT READS IS OF BULK AT MOST 1048576: true; the input reads as it did. -/
def sessionOthersUptoRow : OpenClaim := { program := "ythcnhibjddomdaa", sum := "3b4610b6e78d8670084f3fcf33be0e4fea2f68b67bbb570b92896f4cd915c5e9", func := "oriel/oriellaw30.SessionOthers", spec := "sessionOthers", inPlace := ["slices.overlaps[oriel/api.Member]"], unfollowed := true, recurses := true, apart := false, narrowed := true }
def SessionOthersUptoSaid : Prop := sessionOthersUptoRow.holds Try.pinned (OpenSpec.upto sessionOthersSpec)

end Rows
end Go.Proofs.Ythcnhibjddomdaa
