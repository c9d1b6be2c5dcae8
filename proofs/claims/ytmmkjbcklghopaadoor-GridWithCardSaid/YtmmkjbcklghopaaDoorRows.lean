/-
  NARROWER THAN 'FOR EVERY INPUT', by the rows' own cells (each row's printed sentence says how): GridScrolls: laid · GridErases: laid · GridBack: laid · GridMay: laid · GridWith: laid · GridTwice: laid · GridLines: laid · GridAll: laid · GridFits: laid.
  DERIVED. THE GIVEN ROWS OF THIS SEAT. 9 by the template 'for every input the law returns true; each argument reads behind the call as it read before'; 0 by the template 'total and deterministic' (their statements: YtmmkjbcklghopaaDoorTotals.lean).
  GIVEN WITH THE SEED: the statements are not yours to turn. If you find one false, say at which input.
  Laid BY PROGRAM, IN A SANDBOX (cutbox-rows.mjs): the forced cells as the released guide's own fill.sh prints them over the translation 8ac1b931669caf2d… (all of the seat's roots in one cut). By AI agents, Wed Nov 11 2026. No macro, syntax, notation, axiom, sorry.
-/
import Derived.Test.YtmmkjbcklghopaaDoorChecked
import GoSem.Claim
import GoSem.ClaimJoined
import GoSem.ClaimMapViews
import Derived.JoinedTies
import Derived.KernelRfl
namespace Go.Proofs.YtmmkjbcklghopaaDoor
/- THE CELL 'sum', in the pinned program and in every row, IS THE sha256 OF THE DUMP (.gsa) THAT YtmmkjbcklghopaaDoorProg.lean LOADS. Nothing in Lean hashes anything: it is a label: what it is worth is what the hold of that sum in a sandbox is worth. -/
noncomputable def Tryd.pinned : Pinned := { name := "ytmmkjbcklghopaadoor", sum := "8ac1b931669caf2dc542c3a5048354beaf100b0a3c5b954f1f12f43950f7b59a", checked := Tryd.checked }
namespace Rows
def none {H : Type} : Left H := { results := [], args := [] }

/- WHAT THE LISTED PACKAGE-LEVEL VARIABLES READ AS WHEN THE CALL BEGINS. Each datum BY PROGRAM (the guide's laid-datum.mjs) off the statement by which the dump's own 'gosem.cut.vars' lays the variable. In a bare row this is a premise. The card (YtmmkjbcklghopaaDoorCards.lean) ties it to the program's text. -/
def laid_oriel_cols_bounds {H : Type} : DataW H := .agg [.agg [.lit (.int .i32 768), .lit (.int .i32 879), .lit (.int .i32 0)], .agg [.lit (.int .i32 1155), .lit (.int .i32 1161), .lit (.int .i32 0)], .agg [.lit (.int .i32 1425), .lit (.int .i32 1469), .lit (.int .i32 0)], .agg [.lit (.int .i32 1552), .lit (.int .i32 1562), .lit (.int .i32 0)], .agg [.lit (.int .i32 1611), .lit (.int .i32 1631), .lit (.int .i32 0)], .agg [.lit (.int .i32 4352), .lit (.int .i32 4447), .lit (.int .i32 2)], .agg [.lit (.int .i32 6832), .lit (.int .i32 6911), .lit (.int .i32 0)], .agg [.lit (.int .i32 7616), .lit (.int .i32 7679), .lit (.int .i32 0)], .agg [.lit (.int .i32 8203), .lit (.int .i32 8207), .lit (.int .i32 0)], .agg [.lit (.int .i32 8400), .lit (.int .i32 8447), .lit (.int .i32 0)], .agg [.lit (.int .i32 11904), .lit (.int .i32 12350), .lit (.int .i32 2)], .agg [.lit (.int .i32 12353), .lit (.int .i32 42191), .lit (.int .i32 2)], .agg [.lit (.int .i32 44032), .lit (.int .i32 55203), .lit (.int .i32 2)], .agg [.lit (.int .i32 63744), .lit (.int .i32 64255), .lit (.int .i32 2)], .agg [.lit (.int .i32 65024), .lit (.int .i32 65039), .lit (.int .i32 0)], .agg [.lit (.int .i32 65056), .lit (.int .i32 65071), .lit (.int .i32 0)], .agg [.lit (.int .i32 65072), .lit (.int .i32 65135), .lit (.int .i32 2)], .agg [.lit (.int .i32 65280), .lit (.int .i32 65376), .lit (.int .i32 2)], .agg [.lit (.int .i32 65504), .lit (.int .i32 65510), .lit (.int .i32 2)], .agg [.lit (.int .i32 127744), .lit (.int .i32 128591), .lit (.int .i32 2)], .agg [.lit (.int .i32 129280), .lit (.int .i32 129535), .lit (.int .i32 2)], .agg [.lit (.int .i32 131072), .lit (.int .i32 262141), .lit (.int .i32 2)]]

/-- 'oriellaw15.GridScrolls': WHATEVER THE INPUT: true; the input reads as it did. -/
def gridScrollsSpec : ChangeSpec := { name := "gridScrolls", fn := fun _ => fun
  | [d1, d2, d3, d4, d5] => { results := [.lit (.bool true)], args := [d1, d2, d3, d4, d5] }
  | _ => none }
def gridScrollsRow : OpenClaim := { program := "ytmmkjbcklghopaadoor", sum := "8ac1b931669caf2dc542c3a5048354beaf100b0a3c5b954f1f12f43950f7b59a", func := "oriel/oriellaw15.GridScrolls", spec := "gridScrolls", unfollowed := true, recurses := true, named := ["oriel/cols.bounds"], apart := false, laid := [("oriel/cols.bounds", laid_oriel_cols_bounds)] }
def GridScrollsSaid : Prop := gridScrollsRow.holds Tryd.pinned (OpenSpec.ofChange gridScrollsSpec)

/-- ITS FALSE NEIGHBOUR: 'it returns false'. Refute it at one input. -/
def gridScrollsWrong : ChangeSpec := { name := "gridScrolls", fn := fun _ => fun
  | [d1, d2, d3, d4, d5] => { results := [.lit (.bool false)], args := [d1, d2, d3, d4, d5] }
  | _ => none }
def GridScrollsWrongFalsely : Prop := gridScrollsRow.holds Tryd.pinned (OpenSpec.ofChange gridScrollsWrong)

/-- 'oriellaw15.GridErases': WHATEVER THE INPUT: true; the input reads as it did. -/
def gridErasesSpec : ChangeSpec := { name := "gridErases", fn := fun _ => fun
  | [d1, d2, d3, d4] => { results := [.lit (.bool true)], args := [d1, d2, d3, d4] }
  | _ => none }
def gridErasesRow : OpenClaim := { program := "ytmmkjbcklghopaadoor", sum := "8ac1b931669caf2dc542c3a5048354beaf100b0a3c5b954f1f12f43950f7b59a", func := "oriel/oriellaw15.GridErases", spec := "gridErases", unfollowed := true, recurses := true, named := ["oriel/cols.bounds"], apart := false, laid := [("oriel/cols.bounds", laid_oriel_cols_bounds)] }
def GridErasesSaid : Prop := gridErasesRow.holds Tryd.pinned (OpenSpec.ofChange gridErasesSpec)

/-- ITS FALSE NEIGHBOUR: 'it returns false'. Refute it at one input. -/
def gridErasesWrong : ChangeSpec := { name := "gridErases", fn := fun _ => fun
  | [d1, d2, d3, d4] => { results := [.lit (.bool false)], args := [d1, d2, d3, d4] }
  | _ => none }
def GridErasesWrongFalsely : Prop := gridErasesRow.holds Tryd.pinned (OpenSpec.ofChange gridErasesWrong)

/-- 'oriellaw15.GridBack': WHATEVER THE INPUT: true; the input reads as it did. -/
def gridBackSpec : ChangeSpec := { name := "gridBack", fn := fun _ => fun
  | [d1, d2, d3, d4] => { results := [.lit (.bool true)], args := [d1, d2, d3, d4] }
  | _ => none }
def gridBackRow : OpenClaim := { program := "ytmmkjbcklghopaadoor", sum := "8ac1b931669caf2dc542c3a5048354beaf100b0a3c5b954f1f12f43950f7b59a", func := "oriel/oriellaw15.GridBack", spec := "gridBack", unfollowed := true, recurses := true, named := ["oriel/cols.bounds"], apart := false, laid := [("oriel/cols.bounds", laid_oriel_cols_bounds)] }
def GridBackSaid : Prop := gridBackRow.holds Tryd.pinned (OpenSpec.ofChange gridBackSpec)

/-- ITS FALSE NEIGHBOUR: 'it returns false'. Refute it at one input. -/
def gridBackWrong : ChangeSpec := { name := "gridBack", fn := fun _ => fun
  | [d1, d2, d3, d4] => { results := [.lit (.bool false)], args := [d1, d2, d3, d4] }
  | _ => none }
def GridBackWrongFalsely : Prop := gridBackRow.holds Tryd.pinned (OpenSpec.ofChange gridBackWrong)

/-- 'oriellaw15.GridMay': WHATEVER THE INPUT: true; the input reads as it did. -/
def gridMaySpec : ChangeSpec := { name := "gridMay", fn := fun _ => fun
  | [d1, d2, d3, d4] => { results := [.lit (.bool true)], args := [d1, d2, d3, d4] }
  | _ => none }
def gridMayRow : OpenClaim := { program := "ytmmkjbcklghopaadoor", sum := "8ac1b931669caf2dc542c3a5048354beaf100b0a3c5b954f1f12f43950f7b59a", func := "oriel/oriellaw15.GridMay", spec := "gridMay", unfollowed := true, recurses := true, named := ["oriel/cols.bounds"], apart := false, laid := [("oriel/cols.bounds", laid_oriel_cols_bounds)] }
def GridMaySaid : Prop := gridMayRow.holds Tryd.pinned (OpenSpec.ofChange gridMaySpec)

/-- ITS FALSE NEIGHBOUR: 'it returns false'. Refute it at one input. -/
def gridMayWrong : ChangeSpec := { name := "gridMay", fn := fun _ => fun
  | [d1, d2, d3, d4] => { results := [.lit (.bool false)], args := [d1, d2, d3, d4] }
  | _ => none }
def GridMayWrongFalsely : Prop := gridMayRow.holds Tryd.pinned (OpenSpec.ofChange gridMayWrong)

/-- 'oriellaw15.GridWith': WHATEVER THE INPUT: true; the input reads as it did. -/
def gridWithSpec : ChangeSpec := { name := "gridWith", fn := fun _ => fun
  | [d1, d2, d3, d4, d5] => { results := [.lit (.bool true)], args := [d1, d2, d3, d4, d5] }
  | _ => none }
def gridWithRow : OpenClaim := { program := "ytmmkjbcklghopaadoor", sum := "8ac1b931669caf2dc542c3a5048354beaf100b0a3c5b954f1f12f43950f7b59a", func := "oriel/oriellaw15.GridWith", spec := "gridWith", unfollowed := true, recurses := true, named := ["oriel/cols.bounds"], apart := false, laid := [("oriel/cols.bounds", laid_oriel_cols_bounds)] }
def GridWithSaid : Prop := gridWithRow.holds Tryd.pinned (OpenSpec.ofChange gridWithSpec)

/-- ITS FALSE NEIGHBOUR: 'it returns false'. Refute it at one input. -/
def gridWithWrong : ChangeSpec := { name := "gridWith", fn := fun _ => fun
  | [d1, d2, d3, d4, d5] => { results := [.lit (.bool false)], args := [d1, d2, d3, d4, d5] }
  | _ => none }
def GridWithWrongFalsely : Prop := gridWithRow.holds Tryd.pinned (OpenSpec.ofChange gridWithWrong)

/-- 'oriellaw15.GridTwice': WHATEVER THE INPUT: true; the input reads as it did. -/
def gridTwiceSpec : ChangeSpec := { name := "gridTwice", fn := fun _ => fun
  | [d1, d2, d3, d4, d5, d6] => { results := [.lit (.bool true)], args := [d1, d2, d3, d4, d5, d6] }
  | _ => none }
def gridTwiceRow : OpenClaim := { program := "ytmmkjbcklghopaadoor", sum := "8ac1b931669caf2dc542c3a5048354beaf100b0a3c5b954f1f12f43950f7b59a", func := "oriel/oriellaw15.GridTwice", spec := "gridTwice", unfollowed := true, recurses := true, named := ["oriel/cols.bounds"], apart := false, laid := [("oriel/cols.bounds", laid_oriel_cols_bounds)] }
def GridTwiceSaid : Prop := gridTwiceRow.holds Tryd.pinned (OpenSpec.ofChange gridTwiceSpec)

/-- ITS FALSE NEIGHBOUR: 'it returns false'. Refute it at one input. -/
def gridTwiceWrong : ChangeSpec := { name := "gridTwice", fn := fun _ => fun
  | [d1, d2, d3, d4, d5, d6] => { results := [.lit (.bool false)], args := [d1, d2, d3, d4, d5, d6] }
  | _ => none }
def GridTwiceWrongFalsely : Prop := gridTwiceRow.holds Tryd.pinned (OpenSpec.ofChange gridTwiceWrong)

/-- 'oriellaw15.GridLines': WHATEVER THE INPUT: true; the input reads as it did. -/
def gridLinesSpec : ChangeSpec := { name := "gridLines", fn := fun _ => fun
  | [d1, d2, d3, d4] => { results := [.lit (.bool true)], args := [d1, d2, d3, d4] }
  | _ => none }
def gridLinesRow : OpenClaim := { program := "ytmmkjbcklghopaadoor", sum := "8ac1b931669caf2dc542c3a5048354beaf100b0a3c5b954f1f12f43950f7b59a", func := "oriel/oriellaw15.GridLines", spec := "gridLines", unfollowed := true, recurses := true, named := ["oriel/cols.bounds"], apart := false, laid := [("oriel/cols.bounds", laid_oriel_cols_bounds)] }
def GridLinesSaid : Prop := gridLinesRow.holds Tryd.pinned (OpenSpec.ofChange gridLinesSpec)

/-- ITS FALSE NEIGHBOUR: 'it returns false'. Refute it at one input. -/
def gridLinesWrong : ChangeSpec := { name := "gridLines", fn := fun _ => fun
  | [d1, d2, d3, d4] => { results := [.lit (.bool false)], args := [d1, d2, d3, d4] }
  | _ => none }
def GridLinesWrongFalsely : Prop := gridLinesRow.holds Tryd.pinned (OpenSpec.ofChange gridLinesWrong)

/-- 'oriellaw15.GridAll': WHATEVER THE INPUT: true; the input reads as it did. -/
def gridAllSpec : ChangeSpec := { name := "gridAll", fn := fun _ => fun
  | [d1, d2, d3, d4] => { results := [.lit (.bool true)], args := [d1, d2, d3, d4] }
  | _ => none }
def gridAllRow : OpenClaim := { program := "ytmmkjbcklghopaadoor", sum := "8ac1b931669caf2dc542c3a5048354beaf100b0a3c5b954f1f12f43950f7b59a", func := "oriel/oriellaw15.GridAll", spec := "gridAll", unfollowed := true, recurses := true, named := ["oriel/cols.bounds"], apart := false, laid := [("oriel/cols.bounds", laid_oriel_cols_bounds)] }
def GridAllSaid : Prop := gridAllRow.holds Tryd.pinned (OpenSpec.ofChange gridAllSpec)

/-- ITS FALSE NEIGHBOUR: 'it returns false'. Refute it at one input. -/
def gridAllWrong : ChangeSpec := { name := "gridAll", fn := fun _ => fun
  | [d1, d2, d3, d4] => { results := [.lit (.bool false)], args := [d1, d2, d3, d4] }
  | _ => none }
def GridAllWrongFalsely : Prop := gridAllRow.holds Tryd.pinned (OpenSpec.ofChange gridAllWrong)

/-- 'oriellaw15.GridFits': WHATEVER THE INPUT: true; the input reads as it did. -/
def gridFitsSpec : ChangeSpec := { name := "gridFits", fn := fun _ => fun
  | [d1, d2, d3, d4, d5] => { results := [.lit (.bool true)], args := [d1, d2, d3, d4, d5] }
  | _ => none }
def gridFitsRow : OpenClaim := { program := "ytmmkjbcklghopaadoor", sum := "8ac1b931669caf2dc542c3a5048354beaf100b0a3c5b954f1f12f43950f7b59a", func := "oriel/oriellaw15.GridFits", spec := "gridFits", unfollowed := true, recurses := true, named := ["oriel/cols.bounds"], apart := false, laid := [("oriel/cols.bounds", laid_oriel_cols_bounds)] }
def GridFitsSaid : Prop := gridFitsRow.holds Tryd.pinned (OpenSpec.ofChange gridFitsSpec)

/-- ITS FALSE NEIGHBOUR: 'it returns false'. Refute it at one input. -/
def gridFitsWrong : ChangeSpec := { name := "gridFits", fn := fun _ => fun
  | [d1, d2, d3, d4, d5] => { results := [.lit (.bool false)], args := [d1, d2, d3, d4, d5] }
  | _ => none }
def GridFitsWrongFalsely : Prop := gridFitsRow.holds Tryd.pinned (OpenSpec.ofChange gridFitsWrong)

/- THE SECOND FORM. 'bulk': how many values and letters a reading holds, each counted each time it is reached (what is shared counts as often as it is met; a slice's spare places count too). A statement '..UptoSaid' is the law's where the arguments, and the package variables that the reading takes, are together of bulk at most 1048576: NARROWER than '..Said'. Prove '..Said' where nothing that the law and all that it calls make is longer than what came in: it says more and counts as full. Else prove '..UptoSaid'. A law counts once. -/
mutual
def uptoBulk {H : Type} : DataW H → Nat
  | .lit (.string bytes) => bytes.length + 1
  | .lit _ => 1
  | .nil => 1
  | .ptr d => uptoBulk d + 1
  | .slice elems spare => uptoBulkAll elems + uptoBulkAll spare + 1
  | .agg parts => uptoBulkAll parts + 1
  | .iface _ d => uptoBulk d + 1
  | .map entries => uptoBulkEntries entries + 1
  | .held _ => 1
def uptoBulkAll {H : Type} : List (DataW H) → Nat
  | [] => 0
  | d :: r => uptoBulk d + uptoBulkAll r
def uptoBulkEntries {H : Type} : List (Lit × DataW H) → Nat
  | [] => 0
  | x :: r => uptoBulkEntry x + uptoBulkEntries r
def uptoBulkEntry {H : Type} : Lit × DataW H → Nat
  | (.string bytes, d) => bytes.length + uptoBulk d + 1
  | (_, d) => uptoBulk d + 1
 end
def uptoSmall : (H : Type) → List (DataW H) → Bool := fun _ ds => decide (uptoBulkAll ds ≤ 1048576)
def OpenSpec.upto (s : _root_.Go.ChangeSpec) : _root_.Go.OpenSpec := { _root_.Go.OpenSpec.ofChange s with cond := some uptoSmall }

/-- 'oriellaw15.GridScrolls', WHERE WHAT IT READS IS OF BULK AT MOST 1048576: true; the input reads as it did. -/
def gridScrollsUptoRow : OpenClaim := { program := "ytmmkjbcklghopaadoor", sum := "8ac1b931669caf2dc542c3a5048354beaf100b0a3c5b954f1f12f43950f7b59a", func := "oriel/oriellaw15.GridScrolls", spec := "gridScrolls", unfollowed := true, recurses := true, named := ["oriel/cols.bounds"], apart := false, laid := [("oriel/cols.bounds", laid_oriel_cols_bounds)], narrowed := true }
def GridScrollsUptoSaid : Prop := gridScrollsUptoRow.holds Tryd.pinned (OpenSpec.upto gridScrollsSpec)

/-- 'oriellaw15.GridErases', WHERE WHAT IT READS IS OF BULK AT MOST 1048576: true; the input reads as it did. -/
def gridErasesUptoRow : OpenClaim := { program := "ytmmkjbcklghopaadoor", sum := "8ac1b931669caf2dc542c3a5048354beaf100b0a3c5b954f1f12f43950f7b59a", func := "oriel/oriellaw15.GridErases", spec := "gridErases", unfollowed := true, recurses := true, named := ["oriel/cols.bounds"], apart := false, laid := [("oriel/cols.bounds", laid_oriel_cols_bounds)], narrowed := true }
def GridErasesUptoSaid : Prop := gridErasesUptoRow.holds Tryd.pinned (OpenSpec.upto gridErasesSpec)

/-- 'oriellaw15.GridBack', WHERE WHAT IT READS IS OF BULK AT MOST 1048576: true; the input reads as it did. -/
def gridBackUptoRow : OpenClaim := { program := "ytmmkjbcklghopaadoor", sum := "8ac1b931669caf2dc542c3a5048354beaf100b0a3c5b954f1f12f43950f7b59a", func := "oriel/oriellaw15.GridBack", spec := "gridBack", unfollowed := true, recurses := true, named := ["oriel/cols.bounds"], apart := false, laid := [("oriel/cols.bounds", laid_oriel_cols_bounds)], narrowed := true }
def GridBackUptoSaid : Prop := gridBackUptoRow.holds Tryd.pinned (OpenSpec.upto gridBackSpec)

/-- 'oriellaw15.GridMay', WHERE WHAT IT READS IS OF BULK AT MOST 1048576: true; the input reads as it did. -/
def gridMayUptoRow : OpenClaim := { program := "ytmmkjbcklghopaadoor", sum := "8ac1b931669caf2dc542c3a5048354beaf100b0a3c5b954f1f12f43950f7b59a", func := "oriel/oriellaw15.GridMay", spec := "gridMay", unfollowed := true, recurses := true, named := ["oriel/cols.bounds"], apart := false, laid := [("oriel/cols.bounds", laid_oriel_cols_bounds)], narrowed := true }
def GridMayUptoSaid : Prop := gridMayUptoRow.holds Tryd.pinned (OpenSpec.upto gridMaySpec)

/-- 'oriellaw15.GridWith', WHERE WHAT IT READS IS OF BULK AT MOST 1048576: true; the input reads as it did. -/
def gridWithUptoRow : OpenClaim := { program := "ytmmkjbcklghopaadoor", sum := "8ac1b931669caf2dc542c3a5048354beaf100b0a3c5b954f1f12f43950f7b59a", func := "oriel/oriellaw15.GridWith", spec := "gridWith", unfollowed := true, recurses := true, named := ["oriel/cols.bounds"], apart := false, laid := [("oriel/cols.bounds", laid_oriel_cols_bounds)], narrowed := true }
def GridWithUptoSaid : Prop := gridWithUptoRow.holds Tryd.pinned (OpenSpec.upto gridWithSpec)

/-- 'oriellaw15.GridTwice', WHERE WHAT IT READS IS OF BULK AT MOST 1048576: true; the input reads as it did. -/
def gridTwiceUptoRow : OpenClaim := { program := "ytmmkjbcklghopaadoor", sum := "8ac1b931669caf2dc542c3a5048354beaf100b0a3c5b954f1f12f43950f7b59a", func := "oriel/oriellaw15.GridTwice", spec := "gridTwice", unfollowed := true, recurses := true, named := ["oriel/cols.bounds"], apart := false, laid := [("oriel/cols.bounds", laid_oriel_cols_bounds)], narrowed := true }
def GridTwiceUptoSaid : Prop := gridTwiceUptoRow.holds Tryd.pinned (OpenSpec.upto gridTwiceSpec)

/-- 'oriellaw15.GridLines', WHERE WHAT IT READS IS OF BULK AT MOST 1048576: true; the input reads as it did. -/
def gridLinesUptoRow : OpenClaim := { program := "ytmmkjbcklghopaadoor", sum := "8ac1b931669caf2dc542c3a5048354beaf100b0a3c5b954f1f12f43950f7b59a", func := "oriel/oriellaw15.GridLines", spec := "gridLines", unfollowed := true, recurses := true, named := ["oriel/cols.bounds"], apart := false, laid := [("oriel/cols.bounds", laid_oriel_cols_bounds)], narrowed := true }
def GridLinesUptoSaid : Prop := gridLinesUptoRow.holds Tryd.pinned (OpenSpec.upto gridLinesSpec)

/-- 'oriellaw15.GridAll', WHERE WHAT IT READS IS OF BULK AT MOST 1048576: true; the input reads as it did. -/
def gridAllUptoRow : OpenClaim := { program := "ytmmkjbcklghopaadoor", sum := "8ac1b931669caf2dc542c3a5048354beaf100b0a3c5b954f1f12f43950f7b59a", func := "oriel/oriellaw15.GridAll", spec := "gridAll", unfollowed := true, recurses := true, named := ["oriel/cols.bounds"], apart := false, laid := [("oriel/cols.bounds", laid_oriel_cols_bounds)], narrowed := true }
def GridAllUptoSaid : Prop := gridAllUptoRow.holds Tryd.pinned (OpenSpec.upto gridAllSpec)

/-- 'oriellaw15.GridFits', WHERE WHAT IT READS IS OF BULK AT MOST 1048576: true; the input reads as it did. -/
def gridFitsUptoRow : OpenClaim := { program := "ytmmkjbcklghopaadoor", sum := "8ac1b931669caf2dc542c3a5048354beaf100b0a3c5b954f1f12f43950f7b59a", func := "oriel/oriellaw15.GridFits", spec := "gridFits", unfollowed := true, recurses := true, named := ["oriel/cols.bounds"], apart := false, laid := [("oriel/cols.bounds", laid_oriel_cols_bounds)], narrowed := true }
def GridFitsUptoSaid : Prop := gridFitsUptoRow.holds Tryd.pinned (OpenSpec.upto gridFitsSpec)

end Rows
end Go.Proofs.YtmmkjbcklghopaaDoor
