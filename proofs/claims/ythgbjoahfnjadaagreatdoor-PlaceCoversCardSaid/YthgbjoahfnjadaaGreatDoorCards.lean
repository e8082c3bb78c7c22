/-
  DERIVED. GIVEN WITH THE SEED: THE CARDS: each row of YthgbjoahfnjadaaGreatDoorRows.lean that lists a variable, with what it lists TIED to the program's text (the seventh form; the later family's looks); each row that meets fmt, with fmt's text TOLD by the authors' own Lean function (tested against real Go, not proved from fmt's source: count such statements apart). THE CARD IS WHAT COUNTS. Prove the row's statement (the work); the ties are given (YthgbjoahfnjadaaGreatDoorTie.lean); close each card by the builder's one call (the guide's Derived/Test/ToyasCard.lean, 'card_holds'). Laid BY PROGRAM, IN A SANDBOX (cutbox-door.mjs). By AI agents, Wed Nov 11 2026. No macro, syntax, notation, axiom, sorry.
-/
import Derived.Test.YthgbjoahfnjadaaGreatDoorRows
import GoSem.ClaimSeven
namespace Go.Proofs.YthgbjoahfnjadaaGreatDoor
namespace Rows

/-- THE TIED CARD OF 'copestonelaw03.PlaceHeights'. -/
def placeHeightsCard : Claim7 := { stood := { row := placeHeightsRow, standIns := [], harness := (true, "10a3c29e3bef63269d727635e4471b9fc0f17284be7e76868fa82f1c513ca378"), looks := false }, kinds := [], alts := [], laidByText := true, laidKinds := [.data, .funcs, .pinned], laidTests := true, laidLooks := .later }
def PlaceHeightsCardSaid : Prop := Claim7.holds Tryz.pinned (.plain (OpenSpec.ofChange placeHeightsSpec)) placeHeightsCard

/-- THE TIED CARD OF 'copestonelaw03.PlaceCovers'. -/
def placeCoversCard : Claim7 := { stood := { row := placeCoversRow, standIns := [], harness := (true, "10a3c29e3bef63269d727635e4471b9fc0f17284be7e76868fa82f1c513ca378"), looks := false }, kinds := [], alts := [], laidByText := true, laidKinds := [.data, .funcs, .pinned], laidTests := true, laidLooks := .later }
def PlaceCoversCardSaid : Prop := Claim7.holds Tryz.pinned (.plain (OpenSpec.ofChange placeCoversSpec)) placeCoversCard

/-- THE TIED CARD OF 'copestonelaw03.PlaceNames'. -/
def placeNamesCard : Claim7 := { stood := { row := placeNamesRow, standIns := [], harness := (true, "10a3c29e3bef63269d727635e4471b9fc0f17284be7e76868fa82f1c513ca378"), looks := false }, kinds := [], alts := [], laidByText := true, laidKinds := [.data, .funcs, .pinned], laidTests := true, laidLooks := .later }
def PlaceNamesCardSaid : Prop := Claim7.holds Tryz.pinned (.plain (OpenSpec.ofChange placeNamesSpec)) placeNamesCard

/-- THE SECOND FORM's CARD OF 'copestonelaw03.PlaceHeights'. -/
def placeHeightsUptoCard : Claim7 := { stood := { row := placeHeightsUptoRow, standIns := [], harness := (true, "10a3c29e3bef63269d727635e4471b9fc0f17284be7e76868fa82f1c513ca378"), looks := false }, kinds := [], alts := [], laidByText := true, laidKinds := [.data, .funcs, .pinned], laidTests := true, laidLooks := .later }
def PlaceHeightsUptoCardSaid : Prop := Claim7.holds Tryz.pinned (.plain (OpenSpec.upto placeHeightsSpec)) placeHeightsUptoCard

/-- THE SECOND FORM's CARD OF 'copestonelaw03.PlaceCovers'. -/
def placeCoversUptoCard : Claim7 := { stood := { row := placeCoversUptoRow, standIns := [], harness := (true, "10a3c29e3bef63269d727635e4471b9fc0f17284be7e76868fa82f1c513ca378"), looks := false }, kinds := [], alts := [], laidByText := true, laidKinds := [.data, .funcs, .pinned], laidTests := true, laidLooks := .later }
def PlaceCoversUptoCardSaid : Prop := Claim7.holds Tryz.pinned (.plain (OpenSpec.upto placeCoversSpec)) placeCoversUptoCard

/-- THE SECOND FORM's CARD OF 'copestonelaw03.PlaceNames'. -/
def placeNamesUptoCard : Claim7 := { stood := { row := placeNamesUptoRow, standIns := [], harness := (true, "10a3c29e3bef63269d727635e4471b9fc0f17284be7e76868fa82f1c513ca378"), looks := false }, kinds := [], alts := [], laidByText := true, laidKinds := [.data, .funcs, .pinned], laidTests := true, laidLooks := .later }
def PlaceNamesUptoCardSaid : Prop := Claim7.holds Tryz.pinned (.plain (OpenSpec.upto placeNamesSpec)) placeNamesUptoCard
end Rows
end Go.Proofs.YthgbjoahfnjadaaGreatDoor
