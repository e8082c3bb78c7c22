/-
  DERIVED. GIVEN WITH THE SEED: THE CARDS: each row of YtjnjpagegkcgfaaGreatDoorRows.lean that lists a variable, with what it lists TIED to the program's text (the seventh form; the later family's looks); each row that meets fmt, with fmt's text TOLD by the authors' own Lean function (tested against real Go, not proved from fmt's source: count such statements apart). THE CARD IS WHAT COUNTS. Prove the row's statement (the work); the ties are given (YtjnjpagegkcgfaaGreatDoorTie.lean); close each card by the builder's one call (the guide's Derived/Test/ToyasCard.lean, 'card_holds'). Laid BY PROGRAM, IN A SANDBOX (cutbox-door.mjs). By AI agents, Wed Nov 11 2026. No macro, syntax, notation, axiom, sorry.
-/
import Derived.Test.YtjnjpagegkcgfaaGreatDoorRows
import GoSem.ClaimSeven
namespace Go.Proofs.YtjnjpagegkcgfaaGreatDoor
namespace Rows

/-- THE TIED CARD OF 'copestonelaw03.PlaceDrops'. -/
def placeDropsCard : Claim7 := { stood := { row := placeDropsRow, standIns := [], harness := (true, "515ca16ca3dad4ac28f93bd6384deef0262dee32f268164b4ed2ac08617f1def"), looks := false }, kinds := [], alts := [], laidByText := true, laidKinds := [.data, .funcs, .pinned], laidTests := true, laidLooks := .later }
def PlaceDropsCardSaid : Prop := Claim7.holds Tryz.pinned (.plain (OpenSpec.ofChange placeDropsSpec)) placeDropsCard

/-- THE TIED CARD OF 'copestonelaw03.PlaceBeds'. -/
def placeBedsCard : Claim7 := { stood := { row := placeBedsRow, standIns := [], harness := (true, "515ca16ca3dad4ac28f93bd6384deef0262dee32f268164b4ed2ac08617f1def"), looks := false }, kinds := [], alts := [], laidByText := true, laidKinds := [.data, .funcs, .pinned], laidTests := true, laidLooks := .later }
def PlaceBedsCardSaid : Prop := Claim7.holds Tryz.pinned (.plain (OpenSpec.ofChange placeBedsSpec)) placeBedsCard

/-- THE TIED CARD OF 'copestonelaw03.PlaceStands'. -/
def placeStandsCard : Claim7 := { stood := { row := placeStandsRow, standIns := [], harness := (true, "515ca16ca3dad4ac28f93bd6384deef0262dee32f268164b4ed2ac08617f1def"), looks := false }, kinds := [], alts := [], laidByText := true, laidKinds := [.data, .funcs, .pinned], laidTests := true, laidLooks := .later }
def PlaceStandsCardSaid : Prop := Claim7.holds Tryz.pinned (.plain (OpenSpec.ofChange placeStandsSpec)) placeStandsCard

/-- THE TIED CARD OF 'copestonelaw03.PlaceRelates'. -/
def placeRelatesCard : Claim7 := { stood := { row := placeRelatesRow, standIns := [], harness := (true, "515ca16ca3dad4ac28f93bd6384deef0262dee32f268164b4ed2ac08617f1def"), looks := false }, kinds := [], alts := [], laidByText := true, laidKinds := [.data, .funcs, .pinned], laidTests := true, laidLooks := .later }
def PlaceRelatesCardSaid : Prop := Claim7.holds Tryz.pinned (.plain (OpenSpec.ofChange placeRelatesSpec)) placeRelatesCard

/-- THE SECOND FORM's CARD OF 'copestonelaw03.PlaceDrops'. -/
def placeDropsUptoCard : Claim7 := { stood := { row := placeDropsUptoRow, standIns := [], harness := (true, "515ca16ca3dad4ac28f93bd6384deef0262dee32f268164b4ed2ac08617f1def"), looks := false }, kinds := [], alts := [], laidByText := true, laidKinds := [.data, .funcs, .pinned], laidTests := true, laidLooks := .later }
def PlaceDropsUptoCardSaid : Prop := Claim7.holds Tryz.pinned (.plain (OpenSpec.upto placeDropsSpec)) placeDropsUptoCard

/-- THE SECOND FORM's CARD OF 'copestonelaw03.PlaceBeds'. -/
def placeBedsUptoCard : Claim7 := { stood := { row := placeBedsUptoRow, standIns := [], harness := (true, "515ca16ca3dad4ac28f93bd6384deef0262dee32f268164b4ed2ac08617f1def"), looks := false }, kinds := [], alts := [], laidByText := true, laidKinds := [.data, .funcs, .pinned], laidTests := true, laidLooks := .later }
def PlaceBedsUptoCardSaid : Prop := Claim7.holds Tryz.pinned (.plain (OpenSpec.upto placeBedsSpec)) placeBedsUptoCard

/-- THE SECOND FORM's CARD OF 'copestonelaw03.PlaceStands'. -/
def placeStandsUptoCard : Claim7 := { stood := { row := placeStandsUptoRow, standIns := [], harness := (true, "515ca16ca3dad4ac28f93bd6384deef0262dee32f268164b4ed2ac08617f1def"), looks := false }, kinds := [], alts := [], laidByText := true, laidKinds := [.data, .funcs, .pinned], laidTests := true, laidLooks := .later }
def PlaceStandsUptoCardSaid : Prop := Claim7.holds Tryz.pinned (.plain (OpenSpec.upto placeStandsSpec)) placeStandsUptoCard

/-- THE SECOND FORM's CARD OF 'copestonelaw03.PlaceRelates'. -/
def placeRelatesUptoCard : Claim7 := { stood := { row := placeRelatesUptoRow, standIns := [], harness := (true, "515ca16ca3dad4ac28f93bd6384deef0262dee32f268164b4ed2ac08617f1def"), looks := false }, kinds := [], alts := [], laidByText := true, laidKinds := [.data, .funcs, .pinned], laidTests := true, laidLooks := .later }
def PlaceRelatesUptoCardSaid : Prop := Claim7.holds Tryz.pinned (.plain (OpenSpec.upto placeRelatesSpec)) placeRelatesUptoCard
end Rows
end Go.Proofs.YtjnjpagegkcgfaaGreatDoor
