/-
  NARROWER THAN 'FOR EVERY INPUT', by the rows' own cells (each row's printed sentence says how): LineMay: laid · LineThere: laid · LineEdits: laid · LineWhole: laid · LineStays: laid.
  DERIVED. THE GIVEN ROWS OF THIS SEAT. 5 by the template 'for every input the law returns true; each argument reads behind the call as it read before'; 0 by the template 'total and deterministic' (their statements: YtfgggfejcgfneaaDoorTotals.lean).
  GIVEN WITH THE SEED: the statements are not yours to turn. If you find one false, say at which input.
  Laid BY PROGRAM, IN A SANDBOX (cutbox-rows.mjs): the forced cells as the released guide's own fill.sh prints them over the translation 34640c757546b551… (all of the seat's roots in one cut). By AI agents, Wed Nov 11 2026. No macro, syntax, notation, axiom, sorry.
-/
import Derived.Test.YtfgggfejcgfneaaDoorChecked
import GoSem.Claim
import GoSem.ClaimJoined
import GoSem.ClaimMapViews
import Derived.JoinedTies
import Derived.KernelRfl
namespace Go.Proofs.YtfgggfejcgfneaaDoor
/- THE CELL 'sum', in the pinned program and in every row, IS THE sha256 OF THE DUMP (.gsa) THAT YtfgggfejcgfneaaDoorProg.lean LOADS. Nothing in Lean hashes anything: it is a label: what it is worth is what the hold of that sum in a sandbox is worth. -/
noncomputable def Tryd.pinned : Pinned := { name := "ytfgggfejcgfneaadoor", sum := "34640c757546b55146831c59c108df7235ef1fb8972ae34a4cb0c0a61683c885", checked := Tryd.checked }
namespace Rows
def none {H : Type} : Left H := { results := [], args := [] }

/- WHAT THE LISTED PACKAGE-LEVEL VARIABLES READ AS WHEN THE CALL BEGINS. Each datum BY PROGRAM (the guide's laid-datum.mjs) off the statement by which the dump's own 'gosem.cut.vars' lays the variable. In a bare row this is a premise. The card (YtfgggfejcgfneaaDoorCards.lean) ties it to the program's text. -/
def laid_oriel_cols_bounds {H : Type} : DataW H := .agg [.agg [.lit (.int .i32 768), .lit (.int .i32 879), .lit (.int .i32 0)], .agg [.lit (.int .i32 1155), .lit (.int .i32 1161), .lit (.int .i32 0)], .agg [.lit (.int .i32 1425), .lit (.int .i32 1469), .lit (.int .i32 0)], .agg [.lit (.int .i32 1552), .lit (.int .i32 1562), .lit (.int .i32 0)], .agg [.lit (.int .i32 1611), .lit (.int .i32 1631), .lit (.int .i32 0)], .agg [.lit (.int .i32 4352), .lit (.int .i32 4447), .lit (.int .i32 2)], .agg [.lit (.int .i32 6832), .lit (.int .i32 6911), .lit (.int .i32 0)], .agg [.lit (.int .i32 7616), .lit (.int .i32 7679), .lit (.int .i32 0)], .agg [.lit (.int .i32 8203), .lit (.int .i32 8207), .lit (.int .i32 0)], .agg [.lit (.int .i32 8400), .lit (.int .i32 8447), .lit (.int .i32 0)], .agg [.lit (.int .i32 11904), .lit (.int .i32 12350), .lit (.int .i32 2)], .agg [.lit (.int .i32 12353), .lit (.int .i32 42191), .lit (.int .i32 2)], .agg [.lit (.int .i32 44032), .lit (.int .i32 55203), .lit (.int .i32 2)], .agg [.lit (.int .i32 63744), .lit (.int .i32 64255), .lit (.int .i32 2)], .agg [.lit (.int .i32 65024), .lit (.int .i32 65039), .lit (.int .i32 0)], .agg [.lit (.int .i32 65056), .lit (.int .i32 65071), .lit (.int .i32 0)], .agg [.lit (.int .i32 65072), .lit (.int .i32 65135), .lit (.int .i32 2)], .agg [.lit (.int .i32 65280), .lit (.int .i32 65376), .lit (.int .i32 2)], .agg [.lit (.int .i32 65504), .lit (.int .i32 65510), .lit (.int .i32 2)], .agg [.lit (.int .i32 127744), .lit (.int .i32 128591), .lit (.int .i32 2)], .agg [.lit (.int .i32 129280), .lit (.int .i32 129535), .lit (.int .i32 2)], .agg [.lit (.int .i32 131072), .lit (.int .i32 262141), .lit (.int .i32 2)]]

/-- 'oriellaw14.LineMay': WHATEVER THE INPUT: true; the input reads as it did. -/
def lineMaySpec : ChangeSpec := { name := "lineMay", fn := fun _ => fun
  | [d1, d2, d3] => { results := [.lit (.bool true)], args := [d1, d2, d3] }
  | _ => none }
def lineMayRow : OpenClaim := { program := "ytfgggfejcgfneaadoor", sum := "34640c757546b55146831c59c108df7235ef1fb8972ae34a4cb0c0a61683c885", func := "oriel/oriellaw14.LineMay", spec := "lineMay", unfollowed := true, recurses := true, named := ["oriel/cols.bounds"], apart := false, laid := [("oriel/cols.bounds", laid_oriel_cols_bounds)] }
def LineMaySaid : Prop := lineMayRow.holds Tryd.pinned (OpenSpec.ofChange lineMaySpec)

/-- ITS FALSE NEIGHBOUR: 'it returns false'. Refute it at one input. -/
def lineMayWrong : ChangeSpec := { name := "lineMay", fn := fun _ => fun
  | [d1, d2, d3] => { results := [.lit (.bool false)], args := [d1, d2, d3] }
  | _ => none }
def LineMayWrongFalsely : Prop := lineMayRow.holds Tryd.pinned (OpenSpec.ofChange lineMayWrong)

/-- 'oriellaw14.LineThere': WHATEVER THE INPUT: true; the input reads as it did. -/
def lineThereSpec : ChangeSpec := { name := "lineThere", fn := fun _ => fun
  | [d1, d2, d3] => { results := [.lit (.bool true)], args := [d1, d2, d3] }
  | _ => none }
def lineThereRow : OpenClaim := { program := "ytfgggfejcgfneaadoor", sum := "34640c757546b55146831c59c108df7235ef1fb8972ae34a4cb0c0a61683c885", func := "oriel/oriellaw14.LineThere", spec := "lineThere", unfollowed := true, recurses := true, named := ["oriel/cols.bounds"], apart := false, laid := [("oriel/cols.bounds", laid_oriel_cols_bounds)] }
def LineThereSaid : Prop := lineThereRow.holds Tryd.pinned (OpenSpec.ofChange lineThereSpec)

/-- ITS FALSE NEIGHBOUR: 'it returns false'. Refute it at one input. -/
def lineThereWrong : ChangeSpec := { name := "lineThere", fn := fun _ => fun
  | [d1, d2, d3] => { results := [.lit (.bool false)], args := [d1, d2, d3] }
  | _ => none }
def LineThereWrongFalsely : Prop := lineThereRow.holds Tryd.pinned (OpenSpec.ofChange lineThereWrong)

/-- 'oriellaw14.LineEdits': WHATEVER THE INPUT: true; the input reads as it did. -/
def lineEditsSpec : ChangeSpec := { name := "lineEdits", fn := fun _ => fun
  | [d1, d2, d3, d4] => { results := [.lit (.bool true)], args := [d1, d2, d3, d4] }
  | _ => none }
def lineEditsRow : OpenClaim := { program := "ytfgggfejcgfneaadoor", sum := "34640c757546b55146831c59c108df7235ef1fb8972ae34a4cb0c0a61683c885", func := "oriel/oriellaw14.LineEdits", spec := "lineEdits", unfollowed := true, recurses := true, named := ["oriel/cols.bounds"], apart := false, laid := [("oriel/cols.bounds", laid_oriel_cols_bounds)] }
def LineEditsSaid : Prop := lineEditsRow.holds Tryd.pinned (OpenSpec.ofChange lineEditsSpec)

/-- ITS FALSE NEIGHBOUR: 'it returns false'. Refute it at one input. -/
def lineEditsWrong : ChangeSpec := { name := "lineEdits", fn := fun _ => fun
  | [d1, d2, d3, d4] => { results := [.lit (.bool false)], args := [d1, d2, d3, d4] }
  | _ => none }
def LineEditsWrongFalsely : Prop := lineEditsRow.holds Tryd.pinned (OpenSpec.ofChange lineEditsWrong)

/-- 'oriellaw14.LineWhole': WHATEVER THE INPUT: true; the input reads as it did. -/
def lineWholeSpec : ChangeSpec := { name := "lineWhole", fn := fun _ => fun
  | [d1, d2] => { results := [.lit (.bool true)], args := [d1, d2] }
  | _ => none }
def lineWholeRow : OpenClaim := { program := "ytfgggfejcgfneaadoor", sum := "34640c757546b55146831c59c108df7235ef1fb8972ae34a4cb0c0a61683c885", func := "oriel/oriellaw14.LineWhole", spec := "lineWhole", unfollowed := true, recurses := true, named := ["oriel/cols.bounds"], apart := false, laid := [("oriel/cols.bounds", laid_oriel_cols_bounds)] }
def LineWholeSaid : Prop := lineWholeRow.holds Tryd.pinned (OpenSpec.ofChange lineWholeSpec)

/-- ITS FALSE NEIGHBOUR: 'it returns false'. Refute it at one input. -/
def lineWholeWrong : ChangeSpec := { name := "lineWhole", fn := fun _ => fun
  | [d1, d2] => { results := [.lit (.bool false)], args := [d1, d2] }
  | _ => none }
def LineWholeWrongFalsely : Prop := lineWholeRow.holds Tryd.pinned (OpenSpec.ofChange lineWholeWrong)

/-- 'oriellaw14.LineStays': WHATEVER THE INPUT: true; the input reads as it did. -/
def lineStaysSpec : ChangeSpec := { name := "lineStays", fn := fun _ => fun
  | [d1, d2, d3, d4, d5, d6] => { results := [.lit (.bool true)], args := [d1, d2, d3, d4, d5, d6] }
  | _ => none }
def lineStaysRow : OpenClaim := { program := "ytfgggfejcgfneaadoor", sum := "34640c757546b55146831c59c108df7235ef1fb8972ae34a4cb0c0a61683c885", func := "oriel/oriellaw14.LineStays", spec := "lineStays", unfollowed := true, recurses := true, named := ["oriel/cols.bounds"], apart := false, laid := [("oriel/cols.bounds", laid_oriel_cols_bounds)] }
def LineStaysSaid : Prop := lineStaysRow.holds Tryd.pinned (OpenSpec.ofChange lineStaysSpec)

/-- ITS FALSE NEIGHBOUR: 'it returns false'. Refute it at one input. -/
def lineStaysWrong : ChangeSpec := { name := "lineStays", fn := fun _ => fun
  | [d1, d2, d3, d4, d5, d6] => { results := [.lit (.bool false)], args := [d1, d2, d3, d4, d5, d6] }
  | _ => none }
def LineStaysWrongFalsely : Prop := lineStaysRow.holds Tryd.pinned (OpenSpec.ofChange lineStaysWrong)

/- THE SECOND FORM. 'bulk': how many values and letters a reading holds, each counted each time it is reached (what is shared counts as often as it is met; a slice's spare places count too). A statement '..UptoSaid' is the law's where the arguments, and the package variables that the reading takes, are together of bulk at most 1048576: NARROWER than '..Said'. Prove '..Said' where nothing that the law and all that it calls make is longer than what came in: it says more and counts as full. Else prove '..UptoSaid'. A law counts once. -/
mutual
def uptoBulk {H : Type} : DataW H → Nat
  | .lit (.string bytes) => bytes.length + 1
  | .lit _ => 1
  | .nil => 1
  | .ptr d => uptoBulk d + 1
  | .slice elems spare => uptoBulkAll elems + uptoBulkAll spare + 1
  | .agg parts => uptoBulkAll parts + 1
  | .iface _ d => uptoBulk d + 1
  | .map entries => uptoBulkEntries entries + 1
  | .held _ => 1
def uptoBulkAll {H : Type} : List (DataW H) → Nat
  | [] => 0
  | d :: r => uptoBulk d + uptoBulkAll r
def uptoBulkEntries {H : Type} : List (Lit × DataW H) → Nat
  | [] => 0
  | x :: r => uptoBulkEntry x + uptoBulkEntries r
def uptoBulkEntry {H : Type} : Lit × DataW H → Nat
  | (.string bytes, d) => bytes.length + uptoBulk d + 1
  | (_, d) => uptoBulk d + 1
 end
def uptoSmall : (H : Type) → List (DataW H) → Bool := fun _ ds => decide (uptoBulkAll ds ≤ 1048576)
def OpenSpec.upto (s : _root_.Go.ChangeSpec) : _root_.Go.OpenSpec := { _root_.Go.OpenSpec.ofChange s with cond := some uptoSmall }

/-- 'oriellaw14.LineMay', WHERE WHAT IT READS IS OF BULK AT MOST 1048576: true; the input reads as it did. -/
def lineMayUptoRow : OpenClaim := { program := "ytfgggfejcgfneaadoor", sum := "34640c757546b55146831c59c108df7235ef1fb8972ae34a4cb0c0a61683c885", func := "oriel/oriellaw14.LineMay", spec := "lineMay", unfollowed := true, recurses := true, named := ["oriel/cols.bounds"], apart := false, laid := [("oriel/cols.bounds", laid_oriel_cols_bounds)], narrowed := true }
def LineMayUptoSaid : Prop := lineMayUptoRow.holds Tryd.pinned (OpenSpec.upto lineMaySpec)

/-- 'oriellaw14.LineThere', WHERE WHAT IT READS IS OF BULK AT MOST 1048576: true; the input reads as it did. -/
def lineThereUptoRow : OpenClaim := { program := "ytfgggfejcgfneaadoor", sum := "34640c757546b55146831c59c108df7235ef1fb8972ae34a4cb0c0a61683c885", func := "oriel/oriellaw14.LineThere", spec := "lineThere", unfollowed := true, recurses := true, named := ["oriel/cols.bounds"], apart := false, laid := [("oriel/cols.bounds", laid_oriel_cols_bounds)], narrowed := true }
def LineThereUptoSaid : Prop := lineThereUptoRow.holds Tryd.pinned (OpenSpec.upto lineThereSpec)

/-- 'oriellaw14.LineEdits', WHERE WHAT IT READS IS OF BULK AT MOST 1048576: true; the input reads as it did. -/
def lineEditsUptoRow : OpenClaim := { program := "ytfgggfejcgfneaadoor", sum := "34640c757546b55146831c59c108df7235ef1fb8972ae34a4cb0c0a61683c885", func := "oriel/oriellaw14.LineEdits", spec := "lineEdits", unfollowed := true, recurses := true, named := ["oriel/cols.bounds"], apart := false, laid := [("oriel/cols.bounds", laid_oriel_cols_bounds)], narrowed := true }
def LineEditsUptoSaid : Prop := lineEditsUptoRow.holds Tryd.pinned (OpenSpec.upto lineEditsSpec)

/-- 'oriellaw14.LineWhole', WHERE WHAT IT READS IS OF BULK AT MOST 1048576: true; the input reads as it did. -/
def lineWholeUptoRow : OpenClaim := { program := "ytfgggfejcgfneaadoor", sum := "34640c757546b55146831c59c108df7235ef1fb8972ae34a4cb0c0a61683c885", func := "oriel/oriellaw14.LineWhole", spec := "lineWhole", unfollowed := true, recurses := true, named := ["oriel/cols.bounds"], apart := false, laid := [("oriel/cols.bounds", laid_oriel_cols_bounds)], narrowed := true }
def LineWholeUptoSaid : Prop := lineWholeUptoRow.holds Tryd.pinned (OpenSpec.upto lineWholeSpec)

/-- 'oriellaw14.LineStays', WHERE WHAT IT READS IS OF BULK AT MOST 1048576: true; the input reads as it did. -/
def lineStaysUptoRow : OpenClaim := { program := "ytfgggfejcgfneaadoor", sum := "34640c757546b55146831c59c108df7235ef1fb8972ae34a4cb0c0a61683c885", func := "oriel/oriellaw14.LineStays", spec := "lineStays", unfollowed := true, recurses := true, named := ["oriel/cols.bounds"], apart := false, laid := [("oriel/cols.bounds", laid_oriel_cols_bounds)], narrowed := true }
def LineStaysUptoSaid : Prop := lineStaysUptoRow.holds Tryd.pinned (OpenSpec.upto lineStaysSpec)

end Rows
end Go.Proofs.YtfgggfejcgfneaaDoor
