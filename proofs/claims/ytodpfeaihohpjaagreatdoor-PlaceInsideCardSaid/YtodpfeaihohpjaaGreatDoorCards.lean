/-
  DERIVED. GIVEN WITH THE SEED: THE CARDS: each row of YtodpfeaihohpjaaGreatDoorRows.lean that lists a variable, with what it lists TIED to the program's text (the seventh form; the later family's looks); each row that meets fmt, with fmt's text TOLD by the authors' own Lean function (tested against real Go, not proved from fmt's source: count such statements apart). THE CARD IS WHAT COUNTS. Prove the row's statement (the work); the ties are given (YtodpfeaihohpjaaGreatDoorTie.lean); close each card by the builder's one call (the guide's Derived/Test/ToyasCard.lean, 'card_holds'). Laid BY PROGRAM, IN A SANDBOX (cutbox-door.mjs). By AI agents, Wed Nov 11 2026. No macro, syntax, notation, axiom, sorry.
-/
import Derived.Test.YtodpfeaihohpjaaGreatDoorRows
import GoSem.ClaimSeven
namespace Go.Proofs.YtodpfeaihohpjaaGreatDoor
namespace Rows

/-- THE TIED CARD OF 'copestonelaw03.PlaceEither'. -/
def placeEitherCard : Claim7 := { stood := { row := placeEitherRow, standIns := [], harness := (true, "ec6f23b31fc35fe9fe46bafd4ed33453663e3367de5f0d95b7a42e88dc23c96e"), looks := false }, kinds := [], alts := [], laidByText := true, laidKinds := [.data, .funcs, .pinned], laidTests := true, laidLooks := .later }
def PlaceEitherCardSaid : Prop := Claim7.holds Tryz.pinned (.plain (OpenSpec.ofChange placeEitherSpec)) placeEitherCard

/-- THE TIED CARD OF 'copestonelaw03.PlaceSinks'. -/
def placeSinksCard : Claim7 := { stood := { row := placeSinksRow, standIns := [], harness := (true, "ec6f23b31fc35fe9fe46bafd4ed33453663e3367de5f0d95b7a42e88dc23c96e"), looks := false }, kinds := [], alts := [], laidByText := true, laidKinds := [.data, .funcs, .pinned], laidTests := true, laidLooks := .later }
def PlaceSinksCardSaid : Prop := Claim7.holds Tryz.pinned (.plain (OpenSpec.ofChange placeSinksSpec)) placeSinksCard

/-- THE TIED CARD OF 'copestonelaw03.PlacePins'. -/
def placePinsCard : Claim7 := { stood := { row := placePinsRow, standIns := [], harness := (true, "ec6f23b31fc35fe9fe46bafd4ed33453663e3367de5f0d95b7a42e88dc23c96e"), looks := false }, kinds := [], alts := [], laidByText := true, laidKinds := [.data, .funcs, .pinned], laidTests := true, laidLooks := .later }
def PlacePinsCardSaid : Prop := Claim7.holds Tryz.pinned (.plain (OpenSpec.ofChange placePinsSpec)) placePinsCard

/-- THE TIED CARD OF 'copestonelaw03.PlaceInside'. -/
def placeInsideCard : Claim7 := { stood := { row := placeInsideRow, standIns := [], harness := (true, "ec6f23b31fc35fe9fe46bafd4ed33453663e3367de5f0d95b7a42e88dc23c96e"), looks := false }, kinds := [], alts := [], laidByText := true, laidKinds := [.data, .funcs, .pinned], laidTests := true, laidLooks := .later }
def PlaceInsideCardSaid : Prop := Claim7.holds Tryz.pinned (.plain (OpenSpec.ofChange placeInsideSpec)) placeInsideCard

/-- THE TIED CARD OF 'copestonelaw03.PlaceCovers'. -/
def placeCoversCard : Claim7 := { stood := { row := placeCoversRow, standIns := [], harness := (true, "ec6f23b31fc35fe9fe46bafd4ed33453663e3367de5f0d95b7a42e88dc23c96e"), looks := false }, kinds := [], alts := [], laidByText := true, laidKinds := [.data, .funcs, .pinned], laidTests := true, laidLooks := .later }
def PlaceCoversCardSaid : Prop := Claim7.holds Tryz.pinned (.plain (OpenSpec.ofChange placeCoversSpec)) placeCoversCard

/-- THE TIED CARD OF 'copestonelaw03.PlaceNames'. -/
def placeNamesCard : Claim7 := { stood := { row := placeNamesRow, standIns := [], harness := (true, "ec6f23b31fc35fe9fe46bafd4ed33453663e3367de5f0d95b7a42e88dc23c96e"), looks := false }, kinds := [], alts := [], laidByText := true, laidKinds := [.data, .funcs, .pinned], laidTests := true, laidLooks := .later }
def PlaceNamesCardSaid : Prop := Claim7.holds Tryz.pinned (.plain (OpenSpec.ofChange placeNamesSpec)) placeNamesCard

/-- THE SECOND FORM's CARD OF 'copestonelaw03.PlaceEither'. -/
def placeEitherUptoCard : Claim7 := { stood := { row := placeEitherUptoRow, standIns := [], harness := (true, "ec6f23b31fc35fe9fe46bafd4ed33453663e3367de5f0d95b7a42e88dc23c96e"), looks := false }, kinds := [], alts := [], laidByText := true, laidKinds := [.data, .funcs, .pinned], laidTests := true, laidLooks := .later }
def PlaceEitherUptoCardSaid : Prop := Claim7.holds Tryz.pinned (.plain (OpenSpec.upto placeEitherSpec)) placeEitherUptoCard

/-- THE SECOND FORM's CARD OF 'copestonelaw03.PlaceSinks'. -/
def placeSinksUptoCard : Claim7 := { stood := { row := placeSinksUptoRow, standIns := [], harness := (true, "ec6f23b31fc35fe9fe46bafd4ed33453663e3367de5f0d95b7a42e88dc23c96e"), looks := false }, kinds := [], alts := [], laidByText := true, laidKinds := [.data, .funcs, .pinned], laidTests := true, laidLooks := .later }
def PlaceSinksUptoCardSaid : Prop := Claim7.holds Tryz.pinned (.plain (OpenSpec.upto placeSinksSpec)) placeSinksUptoCard

/-- THE SECOND FORM's CARD OF 'copestonelaw03.PlacePins'. -/
def placePinsUptoCard : Claim7 := { stood := { row := placePinsUptoRow, standIns := [], harness := (true, "ec6f23b31fc35fe9fe46bafd4ed33453663e3367de5f0d95b7a42e88dc23c96e"), looks := false }, kinds := [], alts := [], laidByText := true, laidKinds := [.data, .funcs, .pinned], laidTests := true, laidLooks := .later }
def PlacePinsUptoCardSaid : Prop := Claim7.holds Tryz.pinned (.plain (OpenSpec.upto placePinsSpec)) placePinsUptoCard

/-- THE SECOND FORM's CARD OF 'copestonelaw03.PlaceInside'. -/
def placeInsideUptoCard : Claim7 := { stood := { row := placeInsideUptoRow, standIns := [], harness := (true, "ec6f23b31fc35fe9fe46bafd4ed33453663e3367de5f0d95b7a42e88dc23c96e"), looks := false }, kinds := [], alts := [], laidByText := true, laidKinds := [.data, .funcs, .pinned], laidTests := true, laidLooks := .later }
def PlaceInsideUptoCardSaid : Prop := Claim7.holds Tryz.pinned (.plain (OpenSpec.upto placeInsideSpec)) placeInsideUptoCard

/-- THE SECOND FORM's CARD OF 'copestonelaw03.PlaceCovers'. -/
def placeCoversUptoCard : Claim7 := { stood := { row := placeCoversUptoRow, standIns := [], harness := (true, "ec6f23b31fc35fe9fe46bafd4ed33453663e3367de5f0d95b7a42e88dc23c96e"), looks := false }, kinds := [], alts := [], laidByText := true, laidKinds := [.data, .funcs, .pinned], laidTests := true, laidLooks := .later }
def PlaceCoversUptoCardSaid : Prop := Claim7.holds Tryz.pinned (.plain (OpenSpec.upto placeCoversSpec)) placeCoversUptoCard

/-- THE SECOND FORM's CARD OF 'copestonelaw03.PlaceNames'. -/
def placeNamesUptoCard : Claim7 := { stood := { row := placeNamesUptoRow, standIns := [], harness := (true, "ec6f23b31fc35fe9fe46bafd4ed33453663e3367de5f0d95b7a42e88dc23c96e"), looks := false }, kinds := [], alts := [], laidByText := true, laidKinds := [.data, .funcs, .pinned], laidTests := true, laidLooks := .later }
def PlaceNamesUptoCardSaid : Prop := Claim7.holds Tryz.pinned (.plain (OpenSpec.upto placeNamesSpec)) placeNamesUptoCard
end Rows
end Go.Proofs.YtodpfeaihohpjaaGreatDoor
