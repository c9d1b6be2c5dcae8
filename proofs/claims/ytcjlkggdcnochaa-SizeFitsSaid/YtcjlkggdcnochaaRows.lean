/-
  No cell of these rows narrows 'for every input' (looked for: loops, veiled, ifaces, maps, wideKeys, modest, calm, conditions, laid).
  DERIVED. THE GIVEN ROWS OF THIS SEAT. 4 by the template 'for every input the law returns true; each argument reads behind the call as it read before'; 0 by the template 'total and deterministic' (their statements: YtcjlkggdcnochaaTotals.lean).
  GIVEN WITH THE SEED: the statements are not yours to turn. If you find one false, say at which input.
  Laid BY PROGRAM, IN A SANDBOX (cutbox-rows.mjs): the forced cells as the released guide's own fill.sh prints them over the translation 70ec09c4e129a0f3… (all of the seat's roots in one cut). By AI agents, Wed Nov 11 2026. No macro, syntax, notation, axiom, sorry.
-/
import Derived.Test.YtcjlkggdcnochaaChecked
import GoSem.Claim
import GoSem.ClaimJoined
import GoSem.ClaimMapViews
import Derived.JoinedTies
import Derived.KernelRfl
namespace Go.Proofs.Ytcjlkggdcnochaa
/- THE CELL 'sum', in the pinned program and in every row, IS THE sha256 OF THE DUMP (.gsa) THAT YtcjlkggdcnochaaProg.lean LOADS. Nothing in Lean hashes anything: it is a label: what it is worth is what the hold of that sum in a sandbox is worth. -/
noncomputable def Try.pinned : Pinned := { name := "ytcjlkggdcnochaa", sum := "70ec09c4e129a0f3f4978b91e601e124ff8d06a14467feda85e31ebd7bc3b609", checked := Try.checked }
namespace Rows
def none {H : Type} : Left H := { results := [], args := [] }

/-- 'oriellaw29.SizeLeast': WHATEVER THE INPUT: true; the input reads as it did. -/
def sizeLeastSpec : ChangeSpec := { name := "sizeLeast", fn := fun _ => fun
  | [d1, d2, d3] => { results := [.lit (.bool true)], args := [d1, d2, d3] }
  | _ => none }
def sizeLeastRow : OpenClaim := { program := "ytcjlkggdcnochaa", sum := "70ec09c4e129a0f3f4978b91e601e124ff8d06a14467feda85e31ebd7bc3b609", func := "oriel/oriellaw29.SizeLeast", spec := "sizeLeast", apart := false }
def SizeLeastSaid : Prop := sizeLeastRow.holds Try.pinned (OpenSpec.ofChange sizeLeastSpec)

/-- ITS FALSE NEIGHBOUR: 'it returns false'. Refute it at one input. -/
def sizeLeastWrong : ChangeSpec := { name := "sizeLeast", fn := fun _ => fun
  | [d1, d2, d3] => { results := [.lit (.bool false)], args := [d1, d2, d3] }
  | _ => none }
def SizeLeastWrongFalsely : Prop := sizeLeastRow.holds Try.pinned (OpenSpec.ofChange sizeLeastWrong)

/-- 'oriellaw29.SizeFits': WHATEVER THE INPUT: true; the input reads as it did. -/
def sizeFitsSpec : ChangeSpec := { name := "sizeFits", fn := fun _ => fun
  | [d1, d2, d3] => { results := [.lit (.bool true)], args := [d1, d2, d3] }
  | _ => none }
def sizeFitsRow : OpenClaim := { program := "ytcjlkggdcnochaa", sum := "70ec09c4e129a0f3f4978b91e601e124ff8d06a14467feda85e31ebd7bc3b609", func := "oriel/oriellaw29.SizeFits", spec := "sizeFits", apart := false }
def SizeFitsSaid : Prop := sizeFitsRow.holds Try.pinned (OpenSpec.ofChange sizeFitsSpec)

/-- ITS FALSE NEIGHBOUR: 'it returns false'. Refute it at one input. -/
def sizeFitsWrong : ChangeSpec := { name := "sizeFits", fn := fun _ => fun
  | [d1, d2, d3] => { results := [.lit (.bool false)], args := [d1, d2, d3] }
  | _ => none }
def SizeFitsWrongFalsely : Prop := sizeFitsRow.holds Try.pinned (OpenSpec.ofChange sizeFitsWrong)

/-- 'oriellaw29.SizeEdits': WHATEVER THE INPUT: true; the input reads as it did. -/
def sizeEditsSpec : ChangeSpec := { name := "sizeEdits", fn := fun _ => fun
  | [d1, d2, d3, d4] => { results := [.lit (.bool true)], args := [d1, d2, d3, d4] }
  | _ => none }
def sizeEditsRow : OpenClaim := { program := "ytcjlkggdcnochaa", sum := "70ec09c4e129a0f3f4978b91e601e124ff8d06a14467feda85e31ebd7bc3b609", func := "oriel/oriellaw29.SizeEdits", spec := "sizeEdits", apart := false }
def SizeEditsSaid : Prop := sizeEditsRow.holds Try.pinned (OpenSpec.ofChange sizeEditsSpec)

/-- ITS FALSE NEIGHBOUR: 'it returns false'. Refute it at one input. -/
def sizeEditsWrong : ChangeSpec := { name := "sizeEdits", fn := fun _ => fun
  | [d1, d2, d3, d4] => { results := [.lit (.bool false)], args := [d1, d2, d3, d4] }
  | _ => none }
def SizeEditsWrongFalsely : Prop := sizeEditsRow.holds Try.pinned (OpenSpec.ofChange sizeEditsWrong)

/-- 'oriellaw29.SizeAlone': WHATEVER THE INPUT: true; the input reads as it did. -/
def sizeAloneSpec : ChangeSpec := { name := "sizeAlone", fn := fun _ => fun
  | [d1, d2, d3, d4, d5] => { results := [.lit (.bool true)], args := [d1, d2, d3, d4, d5] }
  | _ => none }
def sizeAloneRow : OpenClaim := { program := "ytcjlkggdcnochaa", sum := "70ec09c4e129a0f3f4978b91e601e124ff8d06a14467feda85e31ebd7bc3b609", func := "oriel/oriellaw29.SizeAlone", spec := "sizeAlone", apart := false }
def SizeAloneSaid : Prop := sizeAloneRow.holds Try.pinned (OpenSpec.ofChange sizeAloneSpec)

/-- ITS FALSE NEIGHBOUR: 'it returns false'. Refute it at one input. -/
def sizeAloneWrong : ChangeSpec := { name := "sizeAlone", fn := fun _ => fun
  | [d1, d2, d3, d4, d5] => { results := [.lit (.bool false)], args := [d1, d2, d3, d4, d5] }
  | _ => none }
def SizeAloneWrongFalsely : Prop := sizeAloneRow.holds Try.pinned (OpenSpec.ofChange sizeAloneWrong)

/- THE SECOND FORM. 'bulk': how many values and letters a reading holds, each counted each time it is reached (what is shared counts as often as it is met; a slice's spare places count too). A statement '..UptoSaid' is the law's where the arguments, and the package variables that the reading takes, are together of bulk at most 1048576: NARROWER than '..Said'. Prove '..Said' where nothing that the law and all that it calls make is longer than what came in: it says more and counts as full. Else prove '..UptoSaid'. A law counts once. -/
mutual
def uptoBulk {H : Type} : DataW H → Nat
  | .lit (.string bytes) => bytes.length + 1
  | .lit _ => 1
  | .nil => 1
  | .ptr d => uptoBulk d + 1
  | .slice elems spare => uptoBulkAll elems + uptoBulkAll spare + 1
  | .agg parts => uptoBulkAll parts + 1
  | .iface _ d => uptoBulk d + 1
  | .map entries => uptoBulkEntries entries + 1
  | .held _ => 1
def uptoBulkAll {H : Type} : List (DataW H) → Nat
  | [] => 0
  | d :: r => uptoBulk d + uptoBulkAll r
def uptoBulkEntries {H : Type} : List (Lit × DataW H) → Nat
  | [] => 0
  | x :: r => uptoBulkEntry x + uptoBulkEntries r
def uptoBulkEntry {H : Type} : Lit × DataW H → Nat
  | (.string bytes, d) => bytes.length + uptoBulk d + 1
  | (_, d) => uptoBulk d + 1
 end
def uptoSmall : (H : Type) → List (DataW H) → Bool := fun _ ds => decide (uptoBulkAll ds ≤ 1048576)
def OpenSpec.upto (s : _root_.Go.ChangeSpec) : _root_.Go.OpenSpec := { _root_.Go.OpenSpec.ofChange s with cond := some uptoSmall }

/-- 'oriellaw29.SizeLeast', WHERE WHAT IT READS IS OF BULK AT MOST 1048576: true; the input reads as it did. -/
def sizeLeastUptoRow : OpenClaim := { program := "ytcjlkggdcnochaa", sum := "70ec09c4e129a0f3f4978b91e601e124ff8d06a14467feda85e31ebd7bc3b609", func := "oriel/oriellaw29.SizeLeast", spec := "sizeLeast", apart := false, narrowed := true }
def SizeLeastUptoSaid : Prop := sizeLeastUptoRow.holds Try.pinned (OpenSpec.upto sizeLeastSpec)

/-- 'oriellaw29.SizeFits', WHERE WHAT IT READS IS OF BULK AT MOST 1048576: true; the input reads as it did. -/
def sizeFitsUptoRow : OpenClaim := { program := "ytcjlkggdcnochaa", sum := "70ec09c4e129a0f3f4978b91e601e124ff8d06a14467feda85e31ebd7bc3b609", func := "oriel/oriellaw29.SizeFits", spec := "sizeFits", apart := false, narrowed := true }
def SizeFitsUptoSaid : Prop := sizeFitsUptoRow.holds Try.pinned (OpenSpec.upto sizeFitsSpec)

/-- 'oriellaw29.SizeEdits', WHERE WHAT IT READS IS OF BULK AT MOST 1048576: true; the input reads as it did. -/
def sizeEditsUptoRow : OpenClaim := { program := "ytcjlkggdcnochaa", sum := "70ec09c4e129a0f3f4978b91e601e124ff8d06a14467feda85e31ebd7bc3b609", func := "oriel/oriellaw29.SizeEdits", spec := "sizeEdits", apart := false, narrowed := true }
def SizeEditsUptoSaid : Prop := sizeEditsUptoRow.holds Try.pinned (OpenSpec.upto sizeEditsSpec)

/-- 'oriellaw29.SizeAlone', WHERE WHAT IT READS IS OF BULK AT MOST 1048576: true; the input reads as it did. -/
def sizeAloneUptoRow : OpenClaim := { program := "ytcjlkggdcnochaa", sum := "70ec09c4e129a0f3f4978b91e601e124ff8d06a14467feda85e31ebd7bc3b609", func := "oriel/oriellaw29.SizeAlone", spec := "sizeAlone", apart := false, narrowed := true }
def SizeAloneUptoSaid : Prop := sizeAloneUptoRow.holds Try.pinned (OpenSpec.upto sizeAloneSpec)

end Rows
end Go.Proofs.Ytcjlkggdcnochaa
