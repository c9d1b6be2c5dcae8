/-
  No cell of these rows narrows 'for every input' (looked for: loops, veiled, ifaces, maps, wideKeys, modest, calm, conditions, laid).
  DERIVED. THE GIVEN ROWS OF THIS SEAT. 6 by the template 'for every input the law returns true; each argument reads behind the call as it read before'; 0 by the template 'total and deterministic' (their statements: YtkkcblfoaldckaaTotals.lean).
  GIVEN WITH THE SEED: the statements are not yours to turn. If you find one false, say at which input.
  Laid BY PROGRAM, IN A SANDBOX (cutbox-rows.mjs): the forced cells as the released guide's own fill.sh prints them over the translation ac715e853c335d5a… (all of the seat's roots in one cut). By AI agents, Wed Nov 11 2026. No macro, syntax, notation, axiom, sorry.
-/
import Derived.Test.YtkkcblfoaldckaaChecked
import GoSem.Claim
import GoSem.ClaimJoined
import GoSem.ClaimMapViews
import Derived.JoinedTies
import Derived.KernelRfl
namespace Go.Proofs.Ytkkcblfoaldckaa
/- THE CELL 'sum', in the pinned program and in every row, IS THE sha256 OF THE DUMP (.gsa) THAT YtkkcblfoaldckaaProg.lean LOADS. Nothing in Lean hashes anything: it is a label: what it is worth is what the hold of that sum in a sandbox is worth. -/
noncomputable def Try.pinned : Pinned := { name := "ytkkcblfoaldckaa", sum := "ac715e853c335d5af00c8ed6ec30da66e499baa4772cf9aaeed7b124c9561388", checked := Try.checked }
namespace Rows
def none {H : Type} : Left H := { results := [], args := [] }

/-- 'oriellaw11.VtParses': WHATEVER THE INPUT: true; the input reads as it did. -/
def vtParsesSpec : ChangeSpec := { name := "vtParses", fn := fun _ => fun
  | [d] => { results := [.lit (.bool true)], args := [d] }
  | _ => none }
def vtParsesRow : OpenClaim := { program := "ytkkcblfoaldckaa", sum := "ac715e853c335d5af00c8ed6ec30da66e499baa4772cf9aaeed7b124c9561388", func := "oriel/oriellaw11.VtParses", spec := "vtParses", unfollowed := true, recurses := true, apart := false }
def VtParsesSaid : Prop := vtParsesRow.holds Try.pinned (OpenSpec.ofChange vtParsesSpec)

/-- ITS FALSE NEIGHBOUR: 'it returns false'. Refute it at one input. -/
def vtParsesWrong : ChangeSpec := { name := "vtParses", fn := fun _ => fun
  | [d] => { results := [.lit (.bool false)], args := [d] }
  | _ => none }
def VtParsesWrongFalsely : Prop := vtParsesRow.holds Try.pinned (OpenSpec.ofChange vtParsesWrong)

/-- 'oriellaw11.VtLimits': WHATEVER THE INPUT: true; the input reads as it did. -/
def vtLimitsSpec : ChangeSpec := { name := "vtLimits", fn := fun _ => fun
  | [d] => { results := [.lit (.bool true)], args := [d] }
  | _ => none }
def vtLimitsRow : OpenClaim := { program := "ytkkcblfoaldckaa", sum := "ac715e853c335d5af00c8ed6ec30da66e499baa4772cf9aaeed7b124c9561388", func := "oriel/oriellaw11.VtLimits", spec := "vtLimits", unfollowed := true, recurses := true, apart := false }
def VtLimitsSaid : Prop := vtLimitsRow.holds Try.pinned (OpenSpec.ofChange vtLimitsSpec)

/-- ITS FALSE NEIGHBOUR: 'it returns false'. Refute it at one input. -/
def vtLimitsWrong : ChangeSpec := { name := "vtLimits", fn := fun _ => fun
  | [d] => { results := [.lit (.bool false)], args := [d] }
  | _ => none }
def VtLimitsWrongFalsely : Prop := vtLimitsRow.holds Try.pinned (OpenSpec.ofChange vtLimitsWrong)

/-- 'oriellaw11.VtCancels': WHATEVER THE INPUT: true; the input reads as it did. -/
def vtCancelsSpec : ChangeSpec := { name := "vtCancels", fn := fun _ => fun
  | [d1, d2] => { results := [.lit (.bool true)], args := [d1, d2] }
  | _ => none }
def vtCancelsRow : OpenClaim := { program := "ytkkcblfoaldckaa", sum := "ac715e853c335d5af00c8ed6ec30da66e499baa4772cf9aaeed7b124c9561388", func := "oriel/oriellaw11.VtCancels", spec := "vtCancels", unfollowed := true, recurses := true, apart := false }
def VtCancelsSaid : Prop := vtCancelsRow.holds Try.pinned (OpenSpec.ofChange vtCancelsSpec)

/-- ITS FALSE NEIGHBOUR: 'it returns false'. Refute it at one input. -/
def vtCancelsWrong : ChangeSpec := { name := "vtCancels", fn := fun _ => fun
  | [d1, d2] => { results := [.lit (.bool false)], args := [d1, d2] }
  | _ => none }
def VtCancelsWrongFalsely : Prop := vtCancelsRow.holds Try.pinned (OpenSpec.ofChange vtCancelsWrong)

/-- 'oriellaw11.VtPlain': WHATEVER THE INPUT: true; the input reads as it did. -/
def vtPlainSpec : ChangeSpec := { name := "vtPlain", fn := fun _ => fun
  | [d] => { results := [.lit (.bool true)], args := [d] }
  | _ => none }
def vtPlainRow : OpenClaim := { program := "ytkkcblfoaldckaa", sum := "ac715e853c335d5af00c8ed6ec30da66e499baa4772cf9aaeed7b124c9561388", func := "oriel/oriellaw11.VtPlain", spec := "vtPlain", unfollowed := true, recurses := true, apart := false }
def VtPlainSaid : Prop := vtPlainRow.holds Try.pinned (OpenSpec.ofChange vtPlainSpec)

/-- ITS FALSE NEIGHBOUR: 'it returns false'. Refute it at one input. -/
def vtPlainWrong : ChangeSpec := { name := "vtPlain", fn := fun _ => fun
  | [d] => { results := [.lit (.bool false)], args := [d] }
  | _ => none }
def VtPlainWrongFalsely : Prop := vtPlainRow.holds Try.pinned (OpenSpec.ofChange vtPlainWrong)

/-- 'oriellaw11.VtPlays': WHATEVER THE INPUT: true; the input reads as it did. -/
def vtPlaysSpec : ChangeSpec := { name := "vtPlays", fn := fun _ => fun
  | [d1, d2] => { results := [.lit (.bool true)], args := [d1, d2] }
  | _ => none }
def vtPlaysRow : OpenClaim := { program := "ytkkcblfoaldckaa", sum := "ac715e853c335d5af00c8ed6ec30da66e499baa4772cf9aaeed7b124c9561388", func := "oriel/oriellaw11.VtPlays", spec := "vtPlays", unfollowed := true, recurses := true, apart := false }
def VtPlaysSaid : Prop := vtPlaysRow.holds Try.pinned (OpenSpec.ofChange vtPlaysSpec)

/-- ITS FALSE NEIGHBOUR: 'it returns false'. Refute it at one input. -/
def vtPlaysWrong : ChangeSpec := { name := "vtPlays", fn := fun _ => fun
  | [d1, d2] => { results := [.lit (.bool false)], args := [d1, d2] }
  | _ => none }
def VtPlaysWrongFalsely : Prop := vtPlaysRow.holds Try.pinned (OpenSpec.ofChange vtPlaysWrong)

/-- 'oriellaw11.VtNone': WHATEVER THE INPUT: true; the input reads as it did. -/
def vtNoneSpec : ChangeSpec := { name := "vtNone", fn := fun _ => fun
  | [d] => { results := [.lit (.bool true)], args := [d] }
  | _ => none }
def vtNoneRow : OpenClaim := { program := "ytkkcblfoaldckaa", sum := "ac715e853c335d5af00c8ed6ec30da66e499baa4772cf9aaeed7b124c9561388", func := "oriel/oriellaw11.VtNone", spec := "vtNone", unfollowed := true, recurses := true, apart := false }
def VtNoneSaid : Prop := vtNoneRow.holds Try.pinned (OpenSpec.ofChange vtNoneSpec)

/-- ITS FALSE NEIGHBOUR: 'it returns false'. Refute it at one input. -/
def vtNoneWrong : ChangeSpec := { name := "vtNone", fn := fun _ => fun
  | [d] => { results := [.lit (.bool false)], args := [d] }
  | _ => none }
def VtNoneWrongFalsely : Prop := vtNoneRow.holds Try.pinned (OpenSpec.ofChange vtNoneWrong)

/- THE SECOND FORM. 'bulk': how many values and letters a reading holds, each counted each time it is reached (what is shared counts as often as it is met; a slice's spare places count too). A statement '..UptoSaid' is the law's where the arguments, and the package variables that the reading takes, are together of bulk at most 1048576: NARROWER than '..Said'. Prove '..Said' where nothing that the law and all that it calls make is longer than what came in: it says more and counts as full. Else prove '..UptoSaid'. A law counts once. -/
mutual
def uptoBulk {H : Type} : DataW H → Nat
  | .lit (.string bytes) => bytes.length + 1
  | .lit _ => 1
  | .nil => 1
  | .ptr d => uptoBulk d + 1
  | .slice elems spare => uptoBulkAll elems + uptoBulkAll spare + 1
  | .agg parts => uptoBulkAll parts + 1
  | .iface _ d => uptoBulk d + 1
  | .map entries => uptoBulkEntries entries + 1
  | .held _ => 1
def uptoBulkAll {H : Type} : List (DataW H) → Nat
  | [] => 0
  | d :: r => uptoBulk d + uptoBulkAll r
def uptoBulkEntries {H : Type} : List (Lit × DataW H) → Nat
  | [] => 0
  | x :: r => uptoBulkEntry x + uptoBulkEntries r
def uptoBulkEntry {H : Type} : Lit × DataW H → Nat
  | (.string bytes, d) => bytes.length + uptoBulk d + 1
  | (_, d) => uptoBulk d + 1
 end
def uptoSmall : (H : Type) → List (DataW H) → Bool := fun _ ds => decide (uptoBulkAll ds ≤ 1048576)
def OpenSpec.upto (s : _root_.Go.ChangeSpec) : _root_.Go.OpenSpec := { _root_.Go.OpenSpec.ofChange s with cond := some uptoSmall }

/-- 'oriellaw11.VtParses', WHERE WHAT IT READS IS OF BULK AT MOST 1048576: true; the input reads as it did. -/
def vtParsesUptoRow : OpenClaim := { program := "ytkkcblfoaldckaa", sum := "ac715e853c335d5af00c8ed6ec30da66e499baa4772cf9aaeed7b124c9561388", func := "oriel/oriellaw11.VtParses", spec := "vtParses", unfollowed := true, recurses := true, apart := false, narrowed := true }
def VtParsesUptoSaid : Prop := vtParsesUptoRow.holds Try.pinned (OpenSpec.upto vtParsesSpec)

/-- 'oriellaw11.VtLimits', WHERE WHAT IT READS IS OF BULK AT MOST 1048576: true; the input reads as it did. -/
def vtLimitsUptoRow : OpenClaim := { program := "ytkkcblfoaldckaa", sum := "ac715e853c335d5af00c8ed6ec30da66e499baa4772cf9aaeed7b124c9561388", func := "oriel/oriellaw11.VtLimits", spec := "vtLimits", unfollowed := true, recurses := true, apart := false, narrowed := true }
def VtLimitsUptoSaid : Prop := vtLimitsUptoRow.holds Try.pinned (OpenSpec.upto vtLimitsSpec)

/-- 'oriellaw11.VtCancels', WHERE WHAT IT READS IS OF BULK AT MOST 1048576: true; the input reads as it did. -/
def vtCancelsUptoRow : OpenClaim := { program := "ytkkcblfoaldckaa", sum := "ac715e853c335d5af00c8ed6ec30da66e499baa4772cf9aaeed7b124c9561388", func := "oriel/oriellaw11.VtCancels", spec := "vtCancels", unfollowed := true, recurses := true, apart := false, narrowed := true }
def VtCancelsUptoSaid : Prop := vtCancelsUptoRow.holds Try.pinned (OpenSpec.upto vtCancelsSpec)

/-- 'oriellaw11.VtPlain', WHERE WHAT IT READS IS OF BULK AT MOST 1048576: true; the input reads as it did. -/
def vtPlainUptoRow : OpenClaim := { program := "ytkkcblfoaldckaa", sum := "ac715e853c335d5af00c8ed6ec30da66e499baa4772cf9aaeed7b124c9561388", func := "oriel/oriellaw11.VtPlain", spec := "vtPlain", unfollowed := true, recurses := true, apart := false, narrowed := true }
def VtPlainUptoSaid : Prop := vtPlainUptoRow.holds Try.pinned (OpenSpec.upto vtPlainSpec)

/-- 'oriellaw11.VtPlays', WHERE WHAT IT READS IS OF BULK AT MOST 1048576: true; the input reads as it did. -/
def vtPlaysUptoRow : OpenClaim := { program := "ytkkcblfoaldckaa", sum := "ac715e853c335d5af00c8ed6ec30da66e499baa4772cf9aaeed7b124c9561388", func := "oriel/oriellaw11.VtPlays", spec := "vtPlays", unfollowed := true, recurses := true, apart := false, narrowed := true }
def VtPlaysUptoSaid : Prop := vtPlaysUptoRow.holds Try.pinned (OpenSpec.upto vtPlaysSpec)

/-- 'oriellaw11.VtNone', WHERE WHAT IT READS IS OF BULK AT MOST 1048576: true; the input reads as it did. -/
def vtNoneUptoRow : OpenClaim := { program := "ytkkcblfoaldckaa", sum := "ac715e853c335d5af00c8ed6ec30da66e499baa4772cf9aaeed7b124c9561388", func := "oriel/oriellaw11.VtNone", spec := "vtNone", unfollowed := true, recurses := true, apart := false, narrowed := true }
def VtNoneUptoSaid : Prop := vtNoneUptoRow.holds Try.pinned (OpenSpec.upto vtNoneSpec)

end Rows
end Go.Proofs.Ytkkcblfoaldckaa
