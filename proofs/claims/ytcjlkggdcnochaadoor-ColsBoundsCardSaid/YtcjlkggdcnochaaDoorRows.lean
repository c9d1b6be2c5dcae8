/-
  NARROWER THAN 'FOR EVERY INPUT', by the rows' own cells (each row's printed sentence says how): ColsOf: laid · ColsBounds: laid · ColsCuts: laid · ColsParts: laid · ColsAdds: laid.
  DERIVED. THE GIVEN ROWS OF THIS SEAT. 5 by the template 'for every input the law returns true; each argument reads behind the call as it read before'; 0 by the template 'total and deterministic' (their statements: YtcjlkggdcnochaaDoorTotals.lean).
  GIVEN WITH THE SEED: the statements are not yours to turn. If you find one false, say at which input.
  Laid BY PROGRAM, IN A SANDBOX (cutbox-rows.mjs): the forced cells as the released guide's own fill.sh prints them over the translation 859089a68ce5b4d3… (all of the seat's roots in one cut). By AI agents, Wed Nov 11 2026. No macro, syntax, notation, axiom, sorry.
-/
import Derived.Test.YtcjlkggdcnochaaDoorChecked
import GoSem.Claim
import GoSem.ClaimJoined
import GoSem.ClaimMapViews
import Derived.JoinedTies
import Derived.KernelRfl
namespace Go.Proofs.YtcjlkggdcnochaaDoor
/- THE CELL 'sum', in the pinned program and in every row, IS THE sha256 OF THE DUMP (.gsa) THAT YtcjlkggdcnochaaDoorProg.lean LOADS. Nothing in Lean hashes anything: it is a label: what it is worth is what the hold of that sum in a sandbox is worth. -/
noncomputable def Tryd.pinned : Pinned := { name := "ytcjlkggdcnochaadoor", sum := "859089a68ce5b4d31e56b4d90730be1e34483f72b2c35fcda467d1fed5fa5d19", checked := Tryd.checked }
namespace Rows
def none {H : Type} : Left H := { results := [], args := [] }

/- WHAT THE LISTED PACKAGE-LEVEL VARIABLES READ AS WHEN THE CALL BEGINS. Each datum BY PROGRAM (the guide's laid-datum.mjs) off the statement by which the dump's own 'gosem.cut.vars' lays the variable. In a bare row this is a premise. The card (YtcjlkggdcnochaaDoorCards.lean) ties it to the program's text. -/
def laid_oriel_cols_bounds {H : Type} : DataW H := .agg [.agg [.lit (.int .i32 768), .lit (.int .i32 879), .lit (.int .i32 0)], .agg [.lit (.int .i32 1155), .lit (.int .i32 1161), .lit (.int .i32 0)], .agg [.lit (.int .i32 1425), .lit (.int .i32 1469), .lit (.int .i32 0)], .agg [.lit (.int .i32 1552), .lit (.int .i32 1562), .lit (.int .i32 0)], .agg [.lit (.int .i32 1611), .lit (.int .i32 1631), .lit (.int .i32 0)], .agg [.lit (.int .i32 4352), .lit (.int .i32 4447), .lit (.int .i32 2)], .agg [.lit (.int .i32 6832), .lit (.int .i32 6911), .lit (.int .i32 0)], .agg [.lit (.int .i32 7616), .lit (.int .i32 7679), .lit (.int .i32 0)], .agg [.lit (.int .i32 8203), .lit (.int .i32 8207), .lit (.int .i32 0)], .agg [.lit (.int .i32 8400), .lit (.int .i32 8447), .lit (.int .i32 0)], .agg [.lit (.int .i32 11904), .lit (.int .i32 12350), .lit (.int .i32 2)], .agg [.lit (.int .i32 12353), .lit (.int .i32 42191), .lit (.int .i32 2)], .agg [.lit (.int .i32 44032), .lit (.int .i32 55203), .lit (.int .i32 2)], .agg [.lit (.int .i32 63744), .lit (.int .i32 64255), .lit (.int .i32 2)], .agg [.lit (.int .i32 65024), .lit (.int .i32 65039), .lit (.int .i32 0)], .agg [.lit (.int .i32 65056), .lit (.int .i32 65071), .lit (.int .i32 0)], .agg [.lit (.int .i32 65072), .lit (.int .i32 65135), .lit (.int .i32 2)], .agg [.lit (.int .i32 65280), .lit (.int .i32 65376), .lit (.int .i32 2)], .agg [.lit (.int .i32 65504), .lit (.int .i32 65510), .lit (.int .i32 2)], .agg [.lit (.int .i32 127744), .lit (.int .i32 128591), .lit (.int .i32 2)], .agg [.lit (.int .i32 129280), .lit (.int .i32 129535), .lit (.int .i32 2)], .agg [.lit (.int .i32 131072), .lit (.int .i32 262141), .lit (.int .i32 2)]]

/-- 'oriellaw13.ColsOf': WHATEVER THE INPUT: true; the input reads as it did. -/
def colsOfSpec : ChangeSpec := { name := "colsOf", fn := fun _ => fun
  | [d] => { results := [.lit (.bool true)], args := [d] }
  | _ => none }
def colsOfRow : OpenClaim := { program := "ytcjlkggdcnochaadoor", sum := "859089a68ce5b4d31e56b4d90730be1e34483f72b2c35fcda467d1fed5fa5d19", func := "oriel/oriellaw13.ColsOf", spec := "colsOf", unfollowed := true, recurses := true, named := ["oriel/cols.bounds"], apart := false, laid := [("oriel/cols.bounds", laid_oriel_cols_bounds)] }
def ColsOfSaid : Prop := colsOfRow.holds Tryd.pinned (OpenSpec.ofChange colsOfSpec)

/-- ITS FALSE NEIGHBOUR: 'it returns false'. Refute it at one input. -/
def colsOfWrong : ChangeSpec := { name := "colsOf", fn := fun _ => fun
  | [d] => { results := [.lit (.bool false)], args := [d] }
  | _ => none }
def ColsOfWrongFalsely : Prop := colsOfRow.holds Tryd.pinned (OpenSpec.ofChange colsOfWrong)

/-- 'oriellaw13.ColsBounds': WHATEVER THE INPUT: true; the input reads as it did. -/
def colsBoundsSpec : ChangeSpec := { name := "colsBounds", fn := fun _ => fun
  | [] => { results := [.lit (.bool true)], args := [] }
  | _ => none }
def colsBoundsRow : OpenClaim := { program := "ytcjlkggdcnochaadoor", sum := "859089a68ce5b4d31e56b4d90730be1e34483f72b2c35fcda467d1fed5fa5d19", func := "oriel/oriellaw13.ColsBounds", spec := "colsBounds", unfollowed := true, recurses := true, named := ["oriel/cols.bounds"], apart := false, laid := [("oriel/cols.bounds", laid_oriel_cols_bounds)] }
def ColsBoundsSaid : Prop := colsBoundsRow.holds Tryd.pinned (OpenSpec.ofChange colsBoundsSpec)

/-- ITS FALSE NEIGHBOUR: 'it returns false'. Refute it at one input. -/
def colsBoundsWrong : ChangeSpec := { name := "colsBounds", fn := fun _ => fun
  | [] => { results := [.lit (.bool false)], args := [] }
  | _ => none }
def ColsBoundsWrongFalsely : Prop := colsBoundsRow.holds Tryd.pinned (OpenSpec.ofChange colsBoundsWrong)

/-- 'oriellaw13.ColsCuts': WHATEVER THE INPUT: true; the input reads as it did. -/
def colsCutsSpec : ChangeSpec := { name := "colsCuts", fn := fun _ => fun
  | [d1, d2] => { results := [.lit (.bool true)], args := [d1, d2] }
  | _ => none }
def colsCutsRow : OpenClaim := { program := "ytcjlkggdcnochaadoor", sum := "859089a68ce5b4d31e56b4d90730be1e34483f72b2c35fcda467d1fed5fa5d19", func := "oriel/oriellaw13.ColsCuts", spec := "colsCuts", unfollowed := true, recurses := true, named := ["oriel/cols.bounds"], apart := false, laid := [("oriel/cols.bounds", laid_oriel_cols_bounds)] }
def ColsCutsSaid : Prop := colsCutsRow.holds Tryd.pinned (OpenSpec.ofChange colsCutsSpec)

/-- ITS FALSE NEIGHBOUR: 'it returns false'. Refute it at one input. -/
def colsCutsWrong : ChangeSpec := { name := "colsCuts", fn := fun _ => fun
  | [d1, d2] => { results := [.lit (.bool false)], args := [d1, d2] }
  | _ => none }
def ColsCutsWrongFalsely : Prop := colsCutsRow.holds Tryd.pinned (OpenSpec.ofChange colsCutsWrong)

/-- 'oriellaw13.ColsParts': WHATEVER THE INPUT: true; the input reads as it did. -/
def colsPartsSpec : ChangeSpec := { name := "colsParts", fn := fun _ => fun
  | [d1, d2] => { results := [.lit (.bool true)], args := [d1, d2] }
  | _ => none }
def colsPartsRow : OpenClaim := { program := "ytcjlkggdcnochaadoor", sum := "859089a68ce5b4d31e56b4d90730be1e34483f72b2c35fcda467d1fed5fa5d19", func := "oriel/oriellaw13.ColsParts", spec := "colsParts", unfollowed := true, recurses := true, named := ["oriel/cols.bounds"], apart := false, laid := [("oriel/cols.bounds", laid_oriel_cols_bounds)] }
def ColsPartsSaid : Prop := colsPartsRow.holds Tryd.pinned (OpenSpec.ofChange colsPartsSpec)

/-- ITS FALSE NEIGHBOUR: 'it returns false'. Refute it at one input. -/
def colsPartsWrong : ChangeSpec := { name := "colsParts", fn := fun _ => fun
  | [d1, d2] => { results := [.lit (.bool false)], args := [d1, d2] }
  | _ => none }
def ColsPartsWrongFalsely : Prop := colsPartsRow.holds Tryd.pinned (OpenSpec.ofChange colsPartsWrong)

/-- 'oriellaw13.ColsAdds': WHATEVER THE INPUT: true; the input reads as it did. -/
def colsAddsSpec : ChangeSpec := { name := "colsAdds", fn := fun _ => fun
  | [d1, d2] => { results := [.lit (.bool true)], args := [d1, d2] }
  | _ => none }
def colsAddsRow : OpenClaim := { program := "ytcjlkggdcnochaadoor", sum := "859089a68ce5b4d31e56b4d90730be1e34483f72b2c35fcda467d1fed5fa5d19", func := "oriel/oriellaw13.ColsAdds", spec := "colsAdds", unfollowed := true, recurses := true, named := ["oriel/cols.bounds"], apart := false, laid := [("oriel/cols.bounds", laid_oriel_cols_bounds)] }
def ColsAddsSaid : Prop := colsAddsRow.holds Tryd.pinned (OpenSpec.ofChange colsAddsSpec)

/-- ITS FALSE NEIGHBOUR: 'it returns false'. Refute it at one input. -/
def colsAddsWrong : ChangeSpec := { name := "colsAdds", fn := fun _ => fun
  | [d1, d2] => { results := [.lit (.bool false)], args := [d1, d2] }
  | _ => none }
def ColsAddsWrongFalsely : Prop := colsAddsRow.holds Tryd.pinned (OpenSpec.ofChange colsAddsWrong)

/- THE SECOND FORM. 'bulk': how many values and letters a reading holds, each counted each time it is reached (what is shared counts as often as it is met; a slice's spare places count too). A statement '..UptoSaid' is the law's where the arguments, and the package variables that the reading takes, are together of bulk at most 1048576: NARROWER than '..Said'. Prove '..Said' where nothing that the law and all that it calls make is longer than what came in: it says more and counts as full. Else prove '..UptoSaid'. A law counts once. -/
mutual
def uptoBulk {H : Type} : DataW H → Nat
  | .lit (.string bytes) => bytes.length + 1
  | .lit _ => 1
  | .nil => 1
  | .ptr d => uptoBulk d + 1
  | .slice elems spare => uptoBulkAll elems + uptoBulkAll spare + 1
  | .agg parts => uptoBulkAll parts + 1
  | .iface _ d => uptoBulk d + 1
  | .map entries => uptoBulkEntries entries + 1
  | .held _ => 1
def uptoBulkAll {H : Type} : List (DataW H) → Nat
  | [] => 0
  | d :: r => uptoBulk d + uptoBulkAll r
def uptoBulkEntries {H : Type} : List (Lit × DataW H) → Nat
  | [] => 0
  | x :: r => uptoBulkEntry x + uptoBulkEntries r
def uptoBulkEntry {H : Type} : Lit × DataW H → Nat
  | (.string bytes, d) => bytes.length + uptoBulk d + 1
  | (_, d) => uptoBulk d + 1
 end
def uptoSmall : (H : Type) → List (DataW H) → Bool := fun _ ds => decide (uptoBulkAll ds ≤ 1048576)
def OpenSpec.upto (s : _root_.Go.ChangeSpec) : _root_.Go.OpenSpec := { _root_.Go.OpenSpec.ofChange s with cond := some uptoSmall }

/-- 'oriellaw13.ColsOf', WHERE WHAT IT READS IS OF BULK AT MOST 1048576: true; the input reads as it did. -/
def colsOfUptoRow : OpenClaim := { program := "ytcjlkggdcnochaadoor", sum := "859089a68ce5b4d31e56b4d90730be1e34483f72b2c35fcda467d1fed5fa5d19", func := "oriel/oriellaw13.ColsOf", spec := "colsOf", unfollowed := true, recurses := true, named := ["oriel/cols.bounds"], apart := false, laid := [("oriel/cols.bounds", laid_oriel_cols_bounds)], narrowed := true }
def ColsOfUptoSaid : Prop := colsOfUptoRow.holds Tryd.pinned (OpenSpec.upto colsOfSpec)

/-- 'oriellaw13.ColsBounds', WHERE WHAT IT READS IS OF BULK AT MOST 1048576: true; the input reads as it did. -/
def colsBoundsUptoRow : OpenClaim := { program := "ytcjlkggdcnochaadoor", sum := "859089a68ce5b4d31e56b4d90730be1e34483f72b2c35fcda467d1fed5fa5d19", func := "oriel/oriellaw13.ColsBounds", spec := "colsBounds", unfollowed := true, recurses := true, named := ["oriel/cols.bounds"], apart := false, laid := [("oriel/cols.bounds", laid_oriel_cols_bounds)], narrowed := true }
def ColsBoundsUptoSaid : Prop := colsBoundsUptoRow.holds Tryd.pinned (OpenSpec.upto colsBoundsSpec)

/-- 'oriellaw13.ColsCuts', WHERE WHAT IT READS IS OF BULK AT MOST 1048576: true; the input reads as it did. -/
def colsCutsUptoRow : OpenClaim := { program := "ytcjlkggdcnochaadoor", sum := "859089a68ce5b4d31e56b4d90730be1e34483f72b2c35fcda467d1fed5fa5d19", func := "oriel/oriellaw13.ColsCuts", spec := "colsCuts", unfollowed := true, recurses := true, named := ["oriel/cols.bounds"], apart := false, laid := [("oriel/cols.bounds", laid_oriel_cols_bounds)], narrowed := true }
def ColsCutsUptoSaid : Prop := colsCutsUptoRow.holds Tryd.pinned (OpenSpec.upto colsCutsSpec)

/-- 'oriellaw13.ColsParts', WHERE WHAT IT READS IS OF BULK AT MOST 1048576: true; the input reads as it did. -/
def colsPartsUptoRow : OpenClaim := { program := "ytcjlkggdcnochaadoor", sum := "859089a68ce5b4d31e56b4d90730be1e34483f72b2c35fcda467d1fed5fa5d19", func := "oriel/oriellaw13.ColsParts", spec := "colsParts", unfollowed := true, recurses := true, named := ["oriel/cols.bounds"], apart := false, laid := [("oriel/cols.bounds", laid_oriel_cols_bounds)], narrowed := true }
def ColsPartsUptoSaid : Prop := colsPartsUptoRow.holds Tryd.pinned (OpenSpec.upto colsPartsSpec)

/-- 'oriellaw13.ColsAdds', WHERE WHAT IT READS IS OF BULK AT MOST 1048576: true; the input reads as it did. -/
def colsAddsUptoRow : OpenClaim := { program := "ytcjlkggdcnochaadoor", sum := "859089a68ce5b4d31e56b4d90730be1e34483f72b2c35fcda467d1fed5fa5d19", func := "oriel/oriellaw13.ColsAdds", spec := "colsAdds", unfollowed := true, recurses := true, named := ["oriel/cols.bounds"], apart := false, laid := [("oriel/cols.bounds", laid_oriel_cols_bounds)], narrowed := true }
def ColsAddsUptoSaid : Prop := colsAddsUptoRow.holds Tryd.pinned (OpenSpec.upto colsAddsSpec)

end Rows
end Go.Proofs.YtcjlkggdcnochaaDoor
