/-
  DERIVED. GIVEN WITH THE SEED: THE CARDS: each row of YtcjlkggdcnochaaDoorRows.lean that lists a variable, with what it lists TIED to the program's text (the seventh form; the later family's looks); each row that meets fmt, with fmt's text TOLD by the authors' own Lean function (tested against real Go, not proved from fmt's source: count such statements apart). THE CARD IS WHAT COUNTS. Prove the row's statement (the work); the ties are given (YtcjlkggdcnochaaDoorTie.lean); close each card by the builder's one call (the guide's Derived/Test/ToyasCard.lean, 'card_holds'). Laid BY PROGRAM, IN A SANDBOX (cutbox-door.mjs). By AI agents, Wed Nov 11 2026. No macro, syntax, notation, axiom, sorry.
-/
import Derived.Test.YtcjlkggdcnochaaDoorRows
import GoSem.ClaimSeven
namespace Go.Proofs.YtcjlkggdcnochaaDoor
namespace Rows

/-- THE TIED CARD OF 'oriellaw13.ColsOf'. -/
def colsOfCard : Claim7 := { stood := { row := colsOfRow, standIns := [], harness := (true, "16720eeb8d2681cf11fad3f42c0f81e7cf2b9a8d7fb4415d3c18e88226f6b135"), looks := false }, kinds := [], alts := [], laidByText := true, laidKinds := [.data], laidTests := true, laidLooks := .later }
def ColsOfCardSaid : Prop := Claim7.holds Tryd.pinned (.plain (OpenSpec.ofChange colsOfSpec)) colsOfCard

/-- THE TIED CARD OF 'oriellaw13.ColsBounds'. -/
def colsBoundsCard : Claim7 := { stood := { row := colsBoundsRow, standIns := [], harness := (true, "16720eeb8d2681cf11fad3f42c0f81e7cf2b9a8d7fb4415d3c18e88226f6b135"), looks := false }, kinds := [], alts := [], laidByText := true, laidKinds := [.data], laidTests := true, laidLooks := .later }
def ColsBoundsCardSaid : Prop := Claim7.holds Tryd.pinned (.plain (OpenSpec.ofChange colsBoundsSpec)) colsBoundsCard

/-- THE TIED CARD OF 'oriellaw13.ColsCuts'. -/
def colsCutsCard : Claim7 := { stood := { row := colsCutsRow, standIns := [], harness := (true, "16720eeb8d2681cf11fad3f42c0f81e7cf2b9a8d7fb4415d3c18e88226f6b135"), looks := false }, kinds := [], alts := [], laidByText := true, laidKinds := [.data], laidTests := true, laidLooks := .later }
def ColsCutsCardSaid : Prop := Claim7.holds Tryd.pinned (.plain (OpenSpec.ofChange colsCutsSpec)) colsCutsCard

/-- THE TIED CARD OF 'oriellaw13.ColsParts'. -/
def colsPartsCard : Claim7 := { stood := { row := colsPartsRow, standIns := [], harness := (true, "16720eeb8d2681cf11fad3f42c0f81e7cf2b9a8d7fb4415d3c18e88226f6b135"), looks := false }, kinds := [], alts := [], laidByText := true, laidKinds := [.data], laidTests := true, laidLooks := .later }
def ColsPartsCardSaid : Prop := Claim7.holds Tryd.pinned (.plain (OpenSpec.ofChange colsPartsSpec)) colsPartsCard

/-- THE TIED CARD OF 'oriellaw13.ColsAdds'. -/
def colsAddsCard : Claim7 := { stood := { row := colsAddsRow, standIns := [], harness := (true, "16720eeb8d2681cf11fad3f42c0f81e7cf2b9a8d7fb4415d3c18e88226f6b135"), looks := false }, kinds := [], alts := [], laidByText := true, laidKinds := [.data], laidTests := true, laidLooks := .later }
def ColsAddsCardSaid : Prop := Claim7.holds Tryd.pinned (.plain (OpenSpec.ofChange colsAddsSpec)) colsAddsCard

/-- THE SECOND FORM's CARD OF 'oriellaw13.ColsOf'. -/
def colsOfUptoCard : Claim7 := { stood := { row := colsOfUptoRow, standIns := [], harness := (true, "16720eeb8d2681cf11fad3f42c0f81e7cf2b9a8d7fb4415d3c18e88226f6b135"), looks := false }, kinds := [], alts := [], laidByText := true, laidKinds := [.data], laidTests := true, laidLooks := .later }
def ColsOfUptoCardSaid : Prop := Claim7.holds Tryd.pinned (.plain (OpenSpec.upto colsOfSpec)) colsOfUptoCard

/-- THE SECOND FORM's CARD OF 'oriellaw13.ColsBounds'. -/
def colsBoundsUptoCard : Claim7 := { stood := { row := colsBoundsUptoRow, standIns := [], harness := (true, "16720eeb8d2681cf11fad3f42c0f81e7cf2b9a8d7fb4415d3c18e88226f6b135"), looks := false }, kinds := [], alts := [], laidByText := true, laidKinds := [.data], laidTests := true, laidLooks := .later }
def ColsBoundsUptoCardSaid : Prop := Claim7.holds Tryd.pinned (.plain (OpenSpec.upto colsBoundsSpec)) colsBoundsUptoCard

/-- THE SECOND FORM's CARD OF 'oriellaw13.ColsCuts'. -/
def colsCutsUptoCard : Claim7 := { stood := { row := colsCutsUptoRow, standIns := [], harness := (true, "16720eeb8d2681cf11fad3f42c0f81e7cf2b9a8d7fb4415d3c18e88226f6b135"), looks := false }, kinds := [], alts := [], laidByText := true, laidKinds := [.data], laidTests := true, laidLooks := .later }
def ColsCutsUptoCardSaid : Prop := Claim7.holds Tryd.pinned (.plain (OpenSpec.upto colsCutsSpec)) colsCutsUptoCard

/-- THE SECOND FORM's CARD OF 'oriellaw13.ColsParts'. -/
def colsPartsUptoCard : Claim7 := { stood := { row := colsPartsUptoRow, standIns := [], harness := (true, "16720eeb8d2681cf11fad3f42c0f81e7cf2b9a8d7fb4415d3c18e88226f6b135"), looks := false }, kinds := [], alts := [], laidByText := true, laidKinds := [.data], laidTests := true, laidLooks := .later }
def ColsPartsUptoCardSaid : Prop := Claim7.holds Tryd.pinned (.plain (OpenSpec.upto colsPartsSpec)) colsPartsUptoCard

/-- THE SECOND FORM's CARD OF 'oriellaw13.ColsAdds'. -/
def colsAddsUptoCard : Claim7 := { stood := { row := colsAddsUptoRow, standIns := [], harness := (true, "16720eeb8d2681cf11fad3f42c0f81e7cf2b9a8d7fb4415d3c18e88226f6b135"), looks := false }, kinds := [], alts := [], laidByText := true, laidKinds := [.data], laidTests := true, laidLooks := .later }
def ColsAddsUptoCardSaid : Prop := Claim7.holds Tryd.pinned (.plain (OpenSpec.upto colsAddsSpec)) colsAddsUptoCard
end Rows
end Go.Proofs.YtcjlkggdcnochaaDoor
