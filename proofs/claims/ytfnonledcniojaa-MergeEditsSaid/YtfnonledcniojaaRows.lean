/-
  No cell of these rows narrows 'for every input' (looked for: loops, veiled, ifaces, maps, wideKeys, modest, calm, conditions, laid).
  DERIVED. THE GIVEN ROWS OF THIS SEAT. 11 by the template 'for every input the law returns true; each argument reads behind the call as it read before'; 0 by the template 'total and deterministic' (their statements: YtfnonledcniojaaTotals.lean).
  GIVEN WITH THE SEED: the statements are not yours to turn. If you find one false, say at which input.
  Laid BY PROGRAM, IN A SANDBOX (cutbox-rows.mjs): the forced cells as the released guide's own fill.sh prints them over the translation b1af96701aaf858b… (all of the seat's roots in one cut). By AI agents, Wed Nov 11 2026. No macro, syntax, notation, axiom, sorry.
-/
import Derived.Test.YtfnonledcniojaaChecked
import GoSem.Claim
import GoSem.ClaimJoined
import GoSem.ClaimMapViews
import Derived.JoinedTies
import Derived.KernelRfl
namespace Go.Proofs.Ytfnonledcniojaa
/- THE CELL 'sum', in the pinned program and in every row, IS THE sha256 OF THE DUMP (.gsa) THAT YtfnonledcniojaaProg.lean LOADS. Nothing in Lean hashes anything: it is a label: what it is worth is what the hold of that sum in a sandbox is worth. -/
noncomputable def Try.pinned : Pinned := { name := "ytfnonledcniojaa", sum := "b1af96701aaf858ba307775532e6b5a474e7ff51cc9654495293719d12f94dce", checked := Try.checked }
namespace Rows
def none {H : Type} : Left H := { results := [], args := [] }

/-- 'oriellaw28.MergeEdits': WHATEVER THE INPUT: true; the input reads as it did. -/
def mergeEditsSpec : ChangeSpec := { name := "mergeEdits", fn := fun _ => fun
  | [d1, d2, d3, d4] => { results := [.lit (.bool true)], args := [d1, d2, d3, d4] }
  | _ => none }
def mergeEditsRow : OpenClaim := { program := "ytfnonledcniojaa", sum := "b1af96701aaf858ba307775532e6b5a474e7ff51cc9654495293719d12f94dce", func := "oriel/oriellaw28.MergeEdits", spec := "mergeEdits", unfollowed := true, recurses := true, apart := false }
def MergeEditsSaid : Prop := mergeEditsRow.holds Try.pinned (OpenSpec.ofChange mergeEditsSpec)

/-- ITS FALSE NEIGHBOUR: 'it returns false'. Refute it at one input. -/
def mergeEditsWrong : ChangeSpec := { name := "mergeEdits", fn := fun _ => fun
  | [d1, d2, d3, d4] => { results := [.lit (.bool false)], args := [d1, d2, d3, d4] }
  | _ => none }
def MergeEditsWrongFalsely : Prop := mergeEditsRow.holds Try.pinned (OpenSpec.ofChange mergeEditsWrong)

/-- 'oriellaw28.MergeBytes': WHATEVER THE INPUT: true; the input reads as it did. -/
def mergeBytesSpec : ChangeSpec := { name := "mergeBytes", fn := fun _ => fun
  | [d1, d2] => { results := [.lit (.bool true)], args := [d1, d2] }
  | _ => none }
def mergeBytesRow : OpenClaim := { program := "ytfnonledcniojaa", sum := "b1af96701aaf858ba307775532e6b5a474e7ff51cc9654495293719d12f94dce", func := "oriel/oriellaw28.MergeBytes", spec := "mergeBytes", unfollowed := true, recurses := true, apart := false }
def MergeBytesSaid : Prop := mergeBytesRow.holds Try.pinned (OpenSpec.ofChange mergeBytesSpec)

/-- ITS FALSE NEIGHBOUR: 'it returns false'. Refute it at one input. -/
def mergeBytesWrong : ChangeSpec := { name := "mergeBytes", fn := fun _ => fun
  | [d1, d2] => { results := [.lit (.bool false)], args := [d1, d2] }
  | _ => none }
def MergeBytesWrongFalsely : Prop := mergeBytesRow.holds Try.pinned (OpenSpec.ofChange mergeBytesWrong)

/-- 'oriellaw28.MergeOrder': WHATEVER THE INPUT: true; the input reads as it did. -/
def mergeOrderSpec : ChangeSpec := { name := "mergeOrder", fn := fun _ => fun
  | [d] => { results := [.lit (.bool true)], args := [d] }
  | _ => none }
def mergeOrderRow : OpenClaim := { program := "ytfnonledcniojaa", sum := "b1af96701aaf858ba307775532e6b5a474e7ff51cc9654495293719d12f94dce", func := "oriel/oriellaw28.MergeOrder", spec := "mergeOrder", unfollowed := true, recurses := true, apart := false }
def MergeOrderSaid : Prop := mergeOrderRow.holds Try.pinned (OpenSpec.ofChange mergeOrderSpec)

/-- ITS FALSE NEIGHBOUR: 'it returns false'. Refute it at one input. -/
def mergeOrderWrong : ChangeSpec := { name := "mergeOrder", fn := fun _ => fun
  | [d] => { results := [.lit (.bool false)], args := [d] }
  | _ => none }
def MergeOrderWrongFalsely : Prop := mergeOrderRow.holds Try.pinned (OpenSpec.ofChange mergeOrderWrong)

/-- 'oriellaw28.MergeParts': WHATEVER THE INPUT: true; the input reads as it did. -/
def mergePartsSpec : ChangeSpec := { name := "mergeParts", fn := fun _ => fun
  | [d1, d2, d3, d4] => { results := [.lit (.bool true)], args := [d1, d2, d3, d4] }
  | _ => none }
def mergePartsRow : OpenClaim := { program := "ytfnonledcniojaa", sum := "b1af96701aaf858ba307775532e6b5a474e7ff51cc9654495293719d12f94dce", func := "oriel/oriellaw28.MergeParts", spec := "mergeParts", unfollowed := true, recurses := true, apart := false }
def MergePartsSaid : Prop := mergePartsRow.holds Try.pinned (OpenSpec.ofChange mergePartsSpec)

/-- ITS FALSE NEIGHBOUR: 'it returns false'. Refute it at one input. -/
def mergePartsWrong : ChangeSpec := { name := "mergeParts", fn := fun _ => fun
  | [d1, d2, d3, d4] => { results := [.lit (.bool false)], args := [d1, d2, d3, d4] }
  | _ => none }
def MergePartsWrongFalsely : Prop := mergePartsRow.holds Try.pinned (OpenSpec.ofChange mergePartsWrong)

/-- 'oriellaw27.TokenEdits': WHATEVER THE INPUT: true; the input reads as it did. -/
def tokenEditsSpec : ChangeSpec := { name := "tokenEdits", fn := fun _ => fun
  | [d1, d2, d3] => { results := [.lit (.bool true)], args := [d1, d2, d3] }
  | _ => none }
def tokenEditsRow : OpenClaim := { program := "ytfnonledcniojaa", sum := "b1af96701aaf858ba307775532e6b5a474e7ff51cc9654495293719d12f94dce", func := "oriel/oriellaw27.TokenEdits", spec := "tokenEdits", unfollowed := true, recurses := true, apart := false }
def TokenEditsSaid : Prop := tokenEditsRow.holds Try.pinned (OpenSpec.ofChange tokenEditsSpec)

/-- ITS FALSE NEIGHBOUR: 'it returns false'. Refute it at one input. -/
def tokenEditsWrong : ChangeSpec := { name := "tokenEdits", fn := fun _ => fun
  | [d1, d2, d3] => { results := [.lit (.bool false)], args := [d1, d2, d3] }
  | _ => none }
def TokenEditsWrongFalsely : Prop := tokenEditsRow.holds Try.pinned (OpenSpec.ofChange tokenEditsWrong)

/-- 'oriellaw27.TokenOrder': WHATEVER THE INPUT: true; the input reads as it did. -/
def tokenOrderSpec : ChangeSpec := { name := "tokenOrder", fn := fun _ => fun
  | [d] => { results := [.lit (.bool true)], args := [d] }
  | _ => none }
def tokenOrderRow : OpenClaim := { program := "ytfnonledcniojaa", sum := "b1af96701aaf858ba307775532e6b5a474e7ff51cc9654495293719d12f94dce", func := "oriel/oriellaw27.TokenOrder", spec := "tokenOrder", unfollowed := true, recurses := true, apart := false }
def TokenOrderSaid : Prop := tokenOrderRow.holds Try.pinned (OpenSpec.ofChange tokenOrderSpec)

/-- ITS FALSE NEIGHBOUR: 'it returns false'. Refute it at one input. -/
def tokenOrderWrong : ChangeSpec := { name := "tokenOrder", fn := fun _ => fun
  | [d] => { results := [.lit (.bool false)], args := [d] }
  | _ => none }
def TokenOrderWrongFalsely : Prop := tokenOrderRow.holds Try.pinned (OpenSpec.ofChange tokenOrderWrong)

/-- 'oriellaw27.TokenKeeps': WHATEVER THE INPUT: true; the input reads as it did. -/
def tokenKeepsSpec : ChangeSpec := { name := "tokenKeeps", fn := fun _ => fun
  | [d1, d2, d3, d4] => { results := [.lit (.bool true)], args := [d1, d2, d3, d4] }
  | _ => none }
def tokenKeepsRow : OpenClaim := { program := "ytfnonledcniojaa", sum := "b1af96701aaf858ba307775532e6b5a474e7ff51cc9654495293719d12f94dce", func := "oriel/oriellaw27.TokenKeeps", spec := "tokenKeeps", unfollowed := true, recurses := true, apart := false }
def TokenKeepsSaid : Prop := tokenKeepsRow.holds Try.pinned (OpenSpec.ofChange tokenKeepsSpec)

/-- ITS FALSE NEIGHBOUR: 'it returns false'. Refute it at one input. -/
def tokenKeepsWrong : ChangeSpec := { name := "tokenKeeps", fn := fun _ => fun
  | [d1, d2, d3, d4] => { results := [.lit (.bool false)], args := [d1, d2, d3, d4] }
  | _ => none }
def TokenKeepsWrongFalsely : Prop := tokenKeepsRow.holds Try.pinned (OpenSpec.ofChange tokenKeepsWrong)

/-- 'oriellaw26.RosterAsks': WHATEVER THE INPUT: true; the input reads as it did. -/
def rosterAsksSpec : ChangeSpec := { name := "rosterAsks", fn := fun _ => fun
  | [d1, d2] => { results := [.lit (.bool true)], args := [d1, d2] }
  | _ => none }
def rosterAsksRow : OpenClaim := { program := "ytfnonledcniojaa", sum := "b1af96701aaf858ba307775532e6b5a474e7ff51cc9654495293719d12f94dce", func := "oriel/oriellaw26.RosterAsks", spec := "rosterAsks", inPlace := ["slices.overlaps[oriel/api.Member]"], unfollowed := true, recurses := true, apart := false }
def RosterAsksSaid : Prop := rosterAsksRow.holds Try.pinned (OpenSpec.ofChange rosterAsksSpec)

/-- ITS FALSE NEIGHBOUR: 'it returns false'. Refute it at one input. -/
def rosterAsksWrong : ChangeSpec := { name := "rosterAsks", fn := fun _ => fun
  | [d1, d2] => { results := [.lit (.bool false)], args := [d1, d2] }
  | _ => none }
def RosterAsksWrongFalsely : Prop := rosterAsksRow.holds Try.pinned (OpenSpec.ofChange rosterAsksWrong)

/-- 'oriellaw26.RosterEdits': WHATEVER THE INPUT: true; the input reads as it did. -/
def rosterEditsSpec : ChangeSpec := { name := "rosterEdits", fn := fun _ => fun
  | [d1, d2, d3] => { results := [.lit (.bool true)], args := [d1, d2, d3] }
  | _ => none }
def rosterEditsRow : OpenClaim := { program := "ytfnonledcniojaa", sum := "b1af96701aaf858ba307775532e6b5a474e7ff51cc9654495293719d12f94dce", func := "oriel/oriellaw26.RosterEdits", spec := "rosterEdits", inPlace := ["slices.overlaps[oriel/api.Member]"], unfollowed := true, recurses := true, apart := false }
def RosterEditsSaid : Prop := rosterEditsRow.holds Try.pinned (OpenSpec.ofChange rosterEditsSpec)

/-- ITS FALSE NEIGHBOUR: 'it returns false'. Refute it at one input. -/
def rosterEditsWrong : ChangeSpec := { name := "rosterEdits", fn := fun _ => fun
  | [d1, d2, d3] => { results := [.lit (.bool false)], args := [d1, d2, d3] }
  | _ => none }
def RosterEditsWrongFalsely : Prop := rosterEditsRow.holds Try.pinned (OpenSpec.ofChange rosterEditsWrong)

/-- 'oriellaw26.RosterAlone': WHATEVER THE INPUT: true; the input reads as it did. -/
def rosterAloneSpec : ChangeSpec := { name := "rosterAlone", fn := fun _ => fun
  | [d] => { results := [.lit (.bool true)], args := [d] }
  | _ => none }
def rosterAloneRow : OpenClaim := { program := "ytfnonledcniojaa", sum := "b1af96701aaf858ba307775532e6b5a474e7ff51cc9654495293719d12f94dce", func := "oriel/oriellaw26.RosterAlone", spec := "rosterAlone", inPlace := ["slices.overlaps[oriel/api.Member]"], unfollowed := true, recurses := true, apart := false }
def RosterAloneSaid : Prop := rosterAloneRow.holds Try.pinned (OpenSpec.ofChange rosterAloneSpec)

/-- ITS FALSE NEIGHBOUR: 'it returns false'. Refute it at one input. -/
def rosterAloneWrong : ChangeSpec := { name := "rosterAlone", fn := fun _ => fun
  | [d] => { results := [.lit (.bool false)], args := [d] }
  | _ => none }
def RosterAloneWrongFalsely : Prop := rosterAloneRow.holds Try.pinned (OpenSpec.ofChange rosterAloneWrong)

/-- 'oriellaw26.RosterBack': WHATEVER THE INPUT: true; the input reads as it did. -/
def rosterBackSpec : ChangeSpec := { name := "rosterBack", fn := fun _ => fun
  | [d1, d2, d3] => { results := [.lit (.bool true)], args := [d1, d2, d3] }
  | _ => none }
def rosterBackRow : OpenClaim := { program := "ytfnonledcniojaa", sum := "b1af96701aaf858ba307775532e6b5a474e7ff51cc9654495293719d12f94dce", func := "oriel/oriellaw26.RosterBack", spec := "rosterBack", inPlace := ["slices.overlaps[oriel/api.Member]"], unfollowed := true, recurses := true, apart := false }
def RosterBackSaid : Prop := rosterBackRow.holds Try.pinned (OpenSpec.ofChange rosterBackSpec)

/-- ITS FALSE NEIGHBOUR: 'it returns false'. Refute it at one input. -/
def rosterBackWrong : ChangeSpec := { name := "rosterBack", fn := fun _ => fun
  | [d1, d2, d3] => { results := [.lit (.bool false)], args := [d1, d2, d3] }
  | _ => none }
def RosterBackWrongFalsely : Prop := rosterBackRow.holds Try.pinned (OpenSpec.ofChange rosterBackWrong)

/- THE SECOND FORM. 'bulk': how many values and letters a reading holds, each counted each time it is reached (what is shared counts as often as it is met; a slice's spare places count too). A statement '..UptoSaid' is the law's where the arguments, and the package variables that the reading takes, are together of bulk at most 1048576: NARROWER than '..Said'. Prove '..Said' where nothing that the law and all that it calls make is longer than what came in: it says more and counts as full. Else prove '..UptoSaid'. A law counts once. -/
mutual
def uptoBulk {H : Type} : DataW H → Nat
  | .lit (.string bytes) => bytes.length + 1
  | .lit _ => 1
  | .nil => 1
  | .ptr d => uptoBulk d + 1
  | .slice elems spare => uptoBulkAll elems + uptoBulkAll spare + 1
  | .agg parts => uptoBulkAll parts + 1
  | .iface _ d => uptoBulk d + 1
  | .map entries => uptoBulkEntries entries + 1
  | .held _ => 1
def uptoBulkAll {H : Type} : List (DataW H) → Nat
  | [] => 0
  | d :: r => uptoBulk d + uptoBulkAll r
def uptoBulkEntries {H : Type} : List (Lit × DataW H) → Nat
  | [] => 0
  | x :: r => uptoBulkEntry x + uptoBulkEntries r
def uptoBulkEntry {H : Type} : Lit × DataW H → Nat
  | (.string bytes, d) => bytes.length + uptoBulk d + 1
  | (_, d) => uptoBulk d + 1
 end
def uptoSmall : (H : Type) → List (DataW H) → Bool := fun _ ds => decide (uptoBulkAll ds ≤ 1048576)
def OpenSpec.upto (s : _root_.Go.ChangeSpec) : _root_.Go.OpenSpec := { _root_.Go.OpenSpec.ofChange s with cond := some uptoSmall }

/-- 'oriellaw28.MergeEdits', WHERE WHAT IT READS IS OF BULK AT MOST 1048576: true; the input reads as it did. -/
def mergeEditsUptoRow : OpenClaim := { program := "ytfnonledcniojaa", sum := "b1af96701aaf858ba307775532e6b5a474e7ff51cc9654495293719d12f94dce", func := "oriel/oriellaw28.MergeEdits", spec := "mergeEdits", unfollowed := true, recurses := true, apart := false, narrowed := true }
def MergeEditsUptoSaid : Prop := mergeEditsUptoRow.holds Try.pinned (OpenSpec.upto mergeEditsSpec)

/-- 'oriellaw28.MergeBytes', WHERE WHAT IT READS IS OF BULK AT MOST 1048576: true; the input reads as it did. -/
def mergeBytesUptoRow : OpenClaim := { program := "ytfnonledcniojaa", sum := "b1af96701aaf858ba307775532e6b5a474e7ff51cc9654495293719d12f94dce", func := "oriel/oriellaw28.MergeBytes", spec := "mergeBytes", unfollowed := true, recurses := true, apart := false, narrowed := true }
def MergeBytesUptoSaid : Prop := mergeBytesUptoRow.holds Try.pinned (OpenSpec.upto mergeBytesSpec)

/-- 'oriellaw28.MergeOrder', WHERE WHAT IT READS IS OF BULK AT MOST 1048576: true; the input reads as it did. -/
def mergeOrderUptoRow : OpenClaim := { program := "ytfnonledcniojaa", sum := "b1af96701aaf858ba307775532e6b5a474e7ff51cc9654495293719d12f94dce", func := "oriel/oriellaw28.MergeOrder", spec := "mergeOrder", unfollowed := true, recurses := true, apart := false, narrowed := true }
def MergeOrderUptoSaid : Prop := mergeOrderUptoRow.holds Try.pinned (OpenSpec.upto mergeOrderSpec)

/-- 'oriellaw28.MergeParts', WHERE WHAT IT READS IS OF BULK AT MOST 1048576: true; the input reads as it did. -/
def mergePartsUptoRow : OpenClaim := { program := "ytfnonledcniojaa", sum := "b1af96701aaf858ba307775532e6b5a474e7ff51cc9654495293719d12f94dce", func := "oriel/oriellaw28.MergeParts", spec := "mergeParts", unfollowed := true, recurses := true, apart := false, narrowed := true }
def MergePartsUptoSaid : Prop := mergePartsUptoRow.holds Try.pinned (OpenSpec.upto mergePartsSpec)

/-- 'oriellaw27.TokenEdits', WHERE WHAT IT READS IS OF BULK AT MOST 1048576: true; the input reads as it did. -/
def tokenEditsUptoRow : OpenClaim := { program := "ytfnonledcniojaa", sum := "b1af96701aaf858ba307775532e6b5a474e7ff51cc9654495293719d12f94dce", func := "oriel/oriellaw27.TokenEdits", spec := "tokenEdits", unfollowed := true, recurses := true, apart := false, narrowed := true }
def TokenEditsUptoSaid : Prop := tokenEditsUptoRow.holds Try.pinned (OpenSpec.upto tokenEditsSpec)

/-- 'oriellaw27.TokenOrder', WHERE WHAT IT READS IS OF BULK AT MOST 1048576: true; the input reads as it did. -/
def tokenOrderUptoRow : OpenClaim := { program := "ytfnonledcniojaa", sum := "b1af96701aaf858ba307775532e6b5a474e7ff51cc9654495293719d12f94dce", func := "oriel/oriellaw27.TokenOrder", spec := "tokenOrder", unfollowed := true, recurses := true, apart := false, narrowed := true }
def TokenOrderUptoSaid : Prop := tokenOrderUptoRow.holds Try.pinned (OpenSpec.upto tokenOrderSpec)

/-- 'oriellaw27.TokenKeeps', WHERE WHAT IT READS IS OF BULK AT MOST 1048576: true; the input reads as it did. -/
def tokenKeepsUptoRow : OpenClaim := { program := "ytfnonledcniojaa", sum := "b1af96701aaf858ba307775532e6b5a474e7ff51cc9654495293719d12f94dce", func := "oriel/oriellaw27.TokenKeeps", spec := "tokenKeeps", unfollowed := true, recurses := true, apart := false, narrowed := true }
def TokenKeepsUptoSaid : Prop := tokenKeepsUptoRow.holds Try.pinned (OpenSpec.upto tokenKeepsSpec)

/-- 'oriellaw26.RosterAsks', WHERE WHAT IT READS IS OF BULK AT MOST 1048576: true; the input reads as it did. -/
def rosterAsksUptoRow : OpenClaim := { program := "ytfnonledcniojaa", sum := "b1af96701aaf858ba307775532e6b5a474e7ff51cc9654495293719d12f94dce", func := "oriel/oriellaw26.RosterAsks", spec := "rosterAsks", inPlace := ["slices.overlaps[oriel/api.Member]"], unfollowed := true, recurses := true, apart := false, narrowed := true }
def RosterAsksUptoSaid : Prop := rosterAsksUptoRow.holds Try.pinned (OpenSpec.upto rosterAsksSpec)

/-- 'oriellaw26.RosterEdits', WHERE WHAT IT READS IS OF BULK AT MOST 1048576: true; the input reads as it did. -/
def rosterEditsUptoRow : OpenClaim := { program := "ytfnonledcniojaa", sum := "b1af96701aaf858ba307775532e6b5a474e7ff51cc9654495293719d12f94dce", func := "oriel/oriellaw26.RosterEdits", spec := "rosterEdits", inPlace := ["slices.overlaps[oriel/api.Member]"], unfollowed := true, recurses := true, apart := false, narrowed := true }
def RosterEditsUptoSaid : Prop := rosterEditsUptoRow.holds Try.pinned (OpenSpec.upto rosterEditsSpec)

/-- 'oriellaw26.RosterAlone', WHERE WHAT IT READS IS OF BULK AT MOST 1048576: true; the input reads as it did. -/
def rosterAloneUptoRow : OpenClaim := { program := "ytfnonledcniojaa", sum := "b1af96701aaf858ba307775532e6b5a474e7ff51cc9654495293719d12f94dce", func := "oriel/oriellaw26.RosterAlone", spec := "rosterAlone", inPlace := ["slices.overlaps[oriel/api.Member]"], unfollowed := true, recurses := true, apart := false, narrowed := true }
def RosterAloneUptoSaid : Prop := rosterAloneUptoRow.holds Try.pinned (OpenSpec.upto rosterAloneSpec)

/-- 'oriellaw26.RosterBack', WHERE WHAT IT READS IS OF BULK AT MOST 1048576: true; the input reads as it did. -/
def rosterBackUptoRow : OpenClaim := { program := "ytfnonledcniojaa", sum := "b1af96701aaf858ba307775532e6b5a474e7ff51cc9654495293719d12f94dce", func := "oriel/oriellaw26.RosterBack", spec := "rosterBack", inPlace := ["slices.overlaps[oriel/api.Member]"], unfollowed := true, recurses := true, apart := false, narrowed := true }
def RosterBackUptoSaid : Prop := rosterBackUptoRow.holds Try.pinned (OpenSpec.upto rosterBackSpec)

end Rows
end Go.Proofs.Ytfnonledcniojaa
