/-
  DERIVED. GIVEN WITH THE SEED: THE CARDS: each row of YtmmkjbcklghopaaDoorRows.lean that lists a variable, with what it lists TIED to the program's text (the seventh form; the later family's looks); each row that meets fmt, with fmt's text TOLD by the authors' own Lean function (tested against real Go, not proved from fmt's source: count such statements apart). THE CARD IS WHAT COUNTS. Prove the row's statement (the work); the ties are given (YtmmkjbcklghopaaDoorTie.lean); close each card by the builder's one call (the guide's Derived/Test/ToyasCard.lean, 'card_holds'). Laid BY PROGRAM, IN A SANDBOX (cutbox-door.mjs). By AI agents, Wed Nov 11 2026. No macro, syntax, notation, axiom, sorry.
-/
import Derived.Test.YtmmkjbcklghopaaDoorRows
import GoSem.ClaimSeven
namespace Go.Proofs.YtmmkjbcklghopaaDoor
namespace Rows

/-- THE TIED CARD OF 'oriellaw15.GridScrolls'. -/
def gridScrollsCard : Claim7 := { stood := { row := gridScrollsRow, standIns := [], harness := (true, "ed0640a4d41f81514abc93d7cbececec70f3af36bb9ab6d8dd90c392c9285976"), looks := false }, kinds := [], alts := [], laidByText := true, laidKinds := [.data], laidTests := true, laidLooks := .later }
def GridScrollsCardSaid : Prop := Claim7.holds Tryd.pinned (.plain (OpenSpec.ofChange gridScrollsSpec)) gridScrollsCard

/-- THE TIED CARD OF 'oriellaw15.GridErases'. -/
def gridErasesCard : Claim7 := { stood := { row := gridErasesRow, standIns := [], harness := (true, "ed0640a4d41f81514abc93d7cbececec70f3af36bb9ab6d8dd90c392c9285976"), looks := false }, kinds := [], alts := [], laidByText := true, laidKinds := [.data], laidTests := true, laidLooks := .later }
def GridErasesCardSaid : Prop := Claim7.holds Tryd.pinned (.plain (OpenSpec.ofChange gridErasesSpec)) gridErasesCard

/-- THE TIED CARD OF 'oriellaw15.GridBack'. -/
def gridBackCard : Claim7 := { stood := { row := gridBackRow, standIns := [], harness := (true, "ed0640a4d41f81514abc93d7cbececec70f3af36bb9ab6d8dd90c392c9285976"), looks := false }, kinds := [], alts := [], laidByText := true, laidKinds := [.data], laidTests := true, laidLooks := .later }
def GridBackCardSaid : Prop := Claim7.holds Tryd.pinned (.plain (OpenSpec.ofChange gridBackSpec)) gridBackCard

/-- THE TIED CARD OF 'oriellaw15.GridMay'. -/
def gridMayCard : Claim7 := { stood := { row := gridMayRow, standIns := [], harness := (true, "ed0640a4d41f81514abc93d7cbececec70f3af36bb9ab6d8dd90c392c9285976"), looks := false }, kinds := [], alts := [], laidByText := true, laidKinds := [.data], laidTests := true, laidLooks := .later }
def GridMayCardSaid : Prop := Claim7.holds Tryd.pinned (.plain (OpenSpec.ofChange gridMaySpec)) gridMayCard

/-- THE TIED CARD OF 'oriellaw15.GridWith'. -/
def gridWithCard : Claim7 := { stood := { row := gridWithRow, standIns := [], harness := (true, "ed0640a4d41f81514abc93d7cbececec70f3af36bb9ab6d8dd90c392c9285976"), looks := false }, kinds := [], alts := [], laidByText := true, laidKinds := [.data], laidTests := true, laidLooks := .later }
def GridWithCardSaid : Prop := Claim7.holds Tryd.pinned (.plain (OpenSpec.ofChange gridWithSpec)) gridWithCard

/-- THE TIED CARD OF 'oriellaw15.GridTwice'. -/
def gridTwiceCard : Claim7 := { stood := { row := gridTwiceRow, standIns := [], harness := (true, "ed0640a4d41f81514abc93d7cbececec70f3af36bb9ab6d8dd90c392c9285976"), looks := false }, kinds := [], alts := [], laidByText := true, laidKinds := [.data], laidTests := true, laidLooks := .later }
def GridTwiceCardSaid : Prop := Claim7.holds Tryd.pinned (.plain (OpenSpec.ofChange gridTwiceSpec)) gridTwiceCard

/-- THE TIED CARD OF 'oriellaw15.GridLines'. -/
def gridLinesCard : Claim7 := { stood := { row := gridLinesRow, standIns := [], harness := (true, "ed0640a4d41f81514abc93d7cbececec70f3af36bb9ab6d8dd90c392c9285976"), looks := false }, kinds := [], alts := [], laidByText := true, laidKinds := [.data], laidTests := true, laidLooks := .later }
def GridLinesCardSaid : Prop := Claim7.holds Tryd.pinned (.plain (OpenSpec.ofChange gridLinesSpec)) gridLinesCard

/-- THE TIED CARD OF 'oriellaw15.GridAll'. -/
def gridAllCard : Claim7 := { stood := { row := gridAllRow, standIns := [], harness := (true, "ed0640a4d41f81514abc93d7cbececec70f3af36bb9ab6d8dd90c392c9285976"), looks := false }, kinds := [], alts := [], laidByText := true, laidKinds := [.data], laidTests := true, laidLooks := .later }
def GridAllCardSaid : Prop := Claim7.holds Tryd.pinned (.plain (OpenSpec.ofChange gridAllSpec)) gridAllCard

/-- THE TIED CARD OF 'oriellaw15.GridFits'. -/
def gridFitsCard : Claim7 := { stood := { row := gridFitsRow, standIns := [], harness := (true, "ed0640a4d41f81514abc93d7cbececec70f3af36bb9ab6d8dd90c392c9285976"), looks := false }, kinds := [], alts := [], laidByText := true, laidKinds := [.data], laidTests := true, laidLooks := .later }
def GridFitsCardSaid : Prop := Claim7.holds Tryd.pinned (.plain (OpenSpec.ofChange gridFitsSpec)) gridFitsCard

/-- THE SECOND FORM's CARD OF 'oriellaw15.GridScrolls'. -/
def gridScrollsUptoCard : Claim7 := { stood := { row := gridScrollsUptoRow, standIns := [], harness := (true, "ed0640a4d41f81514abc93d7cbececec70f3af36bb9ab6d8dd90c392c9285976"), looks := false }, kinds := [], alts := [], laidByText := true, laidKinds := [.data], laidTests := true, laidLooks := .later }
def GridScrollsUptoCardSaid : Prop := Claim7.holds Tryd.pinned (.plain (OpenSpec.upto gridScrollsSpec)) gridScrollsUptoCard

/-- THE SECOND FORM's CARD OF 'oriellaw15.GridErases'. -/
def gridErasesUptoCard : Claim7 := { stood := { row := gridErasesUptoRow, standIns := [], harness := (true, "ed0640a4d41f81514abc93d7cbececec70f3af36bb9ab6d8dd90c392c9285976"), looks := false }, kinds := [], alts := [], laidByText := true, laidKinds := [.data], laidTests := true, laidLooks := .later }
def GridErasesUptoCardSaid : Prop := Claim7.holds Tryd.pinned (.plain (OpenSpec.upto gridErasesSpec)) gridErasesUptoCard

/-- THE SECOND FORM's CARD OF 'oriellaw15.GridBack'. -/
def gridBackUptoCard : Claim7 := { stood := { row := gridBackUptoRow, standIns := [], harness := (true, "ed0640a4d41f81514abc93d7cbececec70f3af36bb9ab6d8dd90c392c9285976"), looks := false }, kinds := [], alts := [], laidByText := true, laidKinds := [.data], laidTests := true, laidLooks := .later }
def GridBackUptoCardSaid : Prop := Claim7.holds Tryd.pinned (.plain (OpenSpec.upto gridBackSpec)) gridBackUptoCard

/-- THE SECOND FORM's CARD OF 'oriellaw15.GridMay'. -/
def gridMayUptoCard : Claim7 := { stood := { row := gridMayUptoRow, standIns := [], harness := (true, "ed0640a4d41f81514abc93d7cbececec70f3af36bb9ab6d8dd90c392c9285976"), looks := false }, kinds := [], alts := [], laidByText := true, laidKinds := [.data], laidTests := true, laidLooks := .later }
def GridMayUptoCardSaid : Prop := Claim7.holds Tryd.pinned (.plain (OpenSpec.upto gridMaySpec)) gridMayUptoCard

/-- THE SECOND FORM's CARD OF 'oriellaw15.GridWith'. -/
def gridWithUptoCard : Claim7 := { stood := { row := gridWithUptoRow, standIns := [], harness := (true, "ed0640a4d41f81514abc93d7cbececec70f3af36bb9ab6d8dd90c392c9285976"), looks := false }, kinds := [], alts := [], laidByText := true, laidKinds := [.data], laidTests := true, laidLooks := .later }
def GridWithUptoCardSaid : Prop := Claim7.holds Tryd.pinned (.plain (OpenSpec.upto gridWithSpec)) gridWithUptoCard

/-- THE SECOND FORM's CARD OF 'oriellaw15.GridTwice'. -/
def gridTwiceUptoCard : Claim7 := { stood := { row := gridTwiceUptoRow, standIns := [], harness := (true, "ed0640a4d41f81514abc93d7cbececec70f3af36bb9ab6d8dd90c392c9285976"), looks := false }, kinds := [], alts := [], laidByText := true, laidKinds := [.data], laidTests := true, laidLooks := .later }
def GridTwiceUptoCardSaid : Prop := Claim7.holds Tryd.pinned (.plain (OpenSpec.upto gridTwiceSpec)) gridTwiceUptoCard

/-- THE SECOND FORM's CARD OF 'oriellaw15.GridLines'. -/
def gridLinesUptoCard : Claim7 := { stood := { row := gridLinesUptoRow, standIns := [], harness := (true, "ed0640a4d41f81514abc93d7cbececec70f3af36bb9ab6d8dd90c392c9285976"), looks := false }, kinds := [], alts := [], laidByText := true, laidKinds := [.data], laidTests := true, laidLooks := .later }
def GridLinesUptoCardSaid : Prop := Claim7.holds Tryd.pinned (.plain (OpenSpec.upto gridLinesSpec)) gridLinesUptoCard

/-- THE SECOND FORM's CARD OF 'oriellaw15.GridAll'. -/
def gridAllUptoCard : Claim7 := { stood := { row := gridAllUptoRow, standIns := [], harness := (true, "ed0640a4d41f81514abc93d7cbececec70f3af36bb9ab6d8dd90c392c9285976"), looks := false }, kinds := [], alts := [], laidByText := true, laidKinds := [.data], laidTests := true, laidLooks := .later }
def GridAllUptoCardSaid : Prop := Claim7.holds Tryd.pinned (.plain (OpenSpec.upto gridAllSpec)) gridAllUptoCard

/-- THE SECOND FORM's CARD OF 'oriellaw15.GridFits'. -/
def gridFitsUptoCard : Claim7 := { stood := { row := gridFitsUptoRow, standIns := [], harness := (true, "ed0640a4d41f81514abc93d7cbececec70f3af36bb9ab6d8dd90c392c9285976"), looks := false }, kinds := [], alts := [], laidByText := true, laidKinds := [.data], laidTests := true, laidLooks := .later }
def GridFitsUptoCardSaid : Prop := Claim7.holds Tryd.pinned (.plain (OpenSpec.upto gridFitsSpec)) gridFitsUptoCard
end Rows
end Go.Proofs.YtmmkjbcklghopaaDoor
