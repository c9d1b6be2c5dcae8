/-
  DERIVED. GIVEN WITH THE SEED: THE CARDS: each row of YtfgggfejcgfneaaDoorRows.lean that lists a variable, with what it lists TIED to the program's text (the seventh form; the later family's looks); each row that meets fmt, with fmt's text TOLD by the authors' own Lean function (tested against real Go, not proved from fmt's source: count such statements apart). THE CARD IS WHAT COUNTS. Prove the row's statement (the work); the ties are given (YtfgggfejcgfneaaDoorTie.lean); close each card by the builder's one call (the guide's Derived/Test/ToyasCard.lean, 'card_holds'). Laid BY PROGRAM, IN A SANDBOX (cutbox-door.mjs). By AI agents, Wed Nov 11 2026. No macro, syntax, notation, axiom, sorry.
-/
import Derived.Test.YtfgggfejcgfneaaDoorRows
import GoSem.ClaimSeven
namespace Go.Proofs.YtfgggfejcgfneaaDoor
namespace Rows

/-- THE TIED CARD OF 'oriellaw14.LineMay'. -/
def lineMayCard : Claim7 := { stood := { row := lineMayRow, standIns := [], harness := (true, "bd2d41de65caf67ff8bda6472d71d24fc37364a1dd3f00e157537dfae94c6f89"), looks := false }, kinds := [], alts := [], laidByText := true, laidKinds := [.data], laidTests := true, laidLooks := .later }
def LineMayCardSaid : Prop := Claim7.holds Tryd.pinned (.plain (OpenSpec.ofChange lineMaySpec)) lineMayCard

/-- THE TIED CARD OF 'oriellaw14.LineThere'. -/
def lineThereCard : Claim7 := { stood := { row := lineThereRow, standIns := [], harness := (true, "bd2d41de65caf67ff8bda6472d71d24fc37364a1dd3f00e157537dfae94c6f89"), looks := false }, kinds := [], alts := [], laidByText := true, laidKinds := [.data], laidTests := true, laidLooks := .later }
def LineThereCardSaid : Prop := Claim7.holds Tryd.pinned (.plain (OpenSpec.ofChange lineThereSpec)) lineThereCard

/-- THE TIED CARD OF 'oriellaw14.LineEdits'. -/
def lineEditsCard : Claim7 := { stood := { row := lineEditsRow, standIns := [], harness := (true, "bd2d41de65caf67ff8bda6472d71d24fc37364a1dd3f00e157537dfae94c6f89"), looks := false }, kinds := [], alts := [], laidByText := true, laidKinds := [.data], laidTests := true, laidLooks := .later }
def LineEditsCardSaid : Prop := Claim7.holds Tryd.pinned (.plain (OpenSpec.ofChange lineEditsSpec)) lineEditsCard

/-- THE TIED CARD OF 'oriellaw14.LineWhole'. -/
def lineWholeCard : Claim7 := { stood := { row := lineWholeRow, standIns := [], harness := (true, "bd2d41de65caf67ff8bda6472d71d24fc37364a1dd3f00e157537dfae94c6f89"), looks := false }, kinds := [], alts := [], laidByText := true, laidKinds := [.data], laidTests := true, laidLooks := .later }
def LineWholeCardSaid : Prop := Claim7.holds Tryd.pinned (.plain (OpenSpec.ofChange lineWholeSpec)) lineWholeCard

/-- THE TIED CARD OF 'oriellaw14.LineStays'. -/
def lineStaysCard : Claim7 := { stood := { row := lineStaysRow, standIns := [], harness := (true, "bd2d41de65caf67ff8bda6472d71d24fc37364a1dd3f00e157537dfae94c6f89"), looks := false }, kinds := [], alts := [], laidByText := true, laidKinds := [.data], laidTests := true, laidLooks := .later }
def LineStaysCardSaid : Prop := Claim7.holds Tryd.pinned (.plain (OpenSpec.ofChange lineStaysSpec)) lineStaysCard

/-- THE SECOND FORM's CARD OF 'oriellaw14.LineMay'. -/
def lineMayUptoCard : Claim7 := { stood := { row := lineMayUptoRow, standIns := [], harness := (true, "bd2d41de65caf67ff8bda6472d71d24fc37364a1dd3f00e157537dfae94c6f89"), looks := false }, kinds := [], alts := [], laidByText := true, laidKinds := [.data], laidTests := true, laidLooks := .later }
def LineMayUptoCardSaid : Prop := Claim7.holds Tryd.pinned (.plain (OpenSpec.upto lineMaySpec)) lineMayUptoCard

/-- THE SECOND FORM's CARD OF 'oriellaw14.LineThere'. -/
def lineThereUptoCard : Claim7 := { stood := { row := lineThereUptoRow, standIns := [], harness := (true, "bd2d41de65caf67ff8bda6472d71d24fc37364a1dd3f00e157537dfae94c6f89"), looks := false }, kinds := [], alts := [], laidByText := true, laidKinds := [.data], laidTests := true, laidLooks := .later }
def LineThereUptoCardSaid : Prop := Claim7.holds Tryd.pinned (.plain (OpenSpec.upto lineThereSpec)) lineThereUptoCard

/-- THE SECOND FORM's CARD OF 'oriellaw14.LineEdits'. -/
def lineEditsUptoCard : Claim7 := { stood := { row := lineEditsUptoRow, standIns := [], harness := (true, "bd2d41de65caf67ff8bda6472d71d24fc37364a1dd3f00e157537dfae94c6f89"), looks := false }, kinds := [], alts := [], laidByText := true, laidKinds := [.data], laidTests := true, laidLooks := .later }
def LineEditsUptoCardSaid : Prop := Claim7.holds Tryd.pinned (.plain (OpenSpec.upto lineEditsSpec)) lineEditsUptoCard

/-- THE SECOND FORM's CARD OF 'oriellaw14.LineWhole'. -/
def lineWholeUptoCard : Claim7 := { stood := { row := lineWholeUptoRow, standIns := [], harness := (true, "bd2d41de65caf67ff8bda6472d71d24fc37364a1dd3f00e157537dfae94c6f89"), looks := false }, kinds := [], alts := [], laidByText := true, laidKinds := [.data], laidTests := true, laidLooks := .later }
def LineWholeUptoCardSaid : Prop := Claim7.holds Tryd.pinned (.plain (OpenSpec.upto lineWholeSpec)) lineWholeUptoCard

/-- THE SECOND FORM's CARD OF 'oriellaw14.LineStays'. -/
def lineStaysUptoCard : Claim7 := { stood := { row := lineStaysUptoRow, standIns := [], harness := (true, "bd2d41de65caf67ff8bda6472d71d24fc37364a1dd3f00e157537dfae94c6f89"), looks := false }, kinds := [], alts := [], laidByText := true, laidKinds := [.data], laidTests := true, laidLooks := .later }
def LineStaysUptoCardSaid : Prop := Claim7.holds Tryd.pinned (.plain (OpenSpec.upto lineStaysSpec)) lineStaysUptoCard
end Rows
end Go.Proofs.YtfgggfejcgfneaaDoor
