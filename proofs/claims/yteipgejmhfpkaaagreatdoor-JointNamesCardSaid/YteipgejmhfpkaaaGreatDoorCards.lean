/-
  DERIVED. GIVEN WITH THE SEED: THE CARDS: each row of YteipgejmhfpkaaaGreatDoorRows.lean that lists a variable, with what it lists TIED to the program's text (the seventh form; the later family's looks); each row that meets fmt, with fmt's text TOLD by the authors' own Lean function (tested against real Go, not proved from fmt's source: count such statements apart). THE CARD IS WHAT COUNTS. Prove the row's statement (the work); the ties are given (YteipgejmhfpkaaaGreatDoorTie.lean); close each card by the builder's one call (the guide's Derived/Test/ToyasCard.lean, 'card_holds'). Laid BY PROGRAM, IN A SANDBOX (cutbox-door.mjs). By AI agents, Wed Nov 11 2026. No macro, syntax, notation, axiom, sorry.
-/
import Derived.Test.YteipgejmhfpkaaaGreatDoorRows
import GoSem.ClaimSeven
namespace Go.Proofs.YteipgejmhfpkaaaGreatDoor
namespace Rows

/-- THE TIED CARD OF 'copestonelaw05.JointOrders'. -/
def jointOrdersCard : Claim7 := { stood := { row := jointOrdersRow, standIns := [], harness := (true, "3a2da10a4a77cb5131c78d0ef8e769b050cc65da2d15317fe346cda59e203d81"), looks := false }, kinds := [], alts := [], laidByText := true, laidKinds := [.funcs], laidTests := true, laidLooks := .later }
def JointOrdersCardSaid : Prop := Claim7.holds Tryz.pinned (.plain (OpenSpec.ofChange jointOrdersSpec)) jointOrdersCard

/-- THE TIED CARD OF 'copestonelaw05.JointMore'. -/
def jointMoreCard : Claim7 := { stood := { row := jointMoreRow, standIns := [], harness := (true, "3a2da10a4a77cb5131c78d0ef8e769b050cc65da2d15317fe346cda59e203d81"), looks := false }, kinds := [], alts := [], laidByText := true, laidKinds := [.funcs], laidTests := true, laidLooks := .later }
def JointMoreCardSaid : Prop := Claim7.holds Tryz.pinned (.plain (OpenSpec.ofChange jointMoreSpec)) jointMoreCard

/-- THE TIED CARD OF 'copestonelaw05.JointMoves'. -/
def jointMovesCard : Claim7 := { stood := { row := jointMovesRow, standIns := [], harness := (true, "3a2da10a4a77cb5131c78d0ef8e769b050cc65da2d15317fe346cda59e203d81"), looks := false }, kinds := [], alts := [], laidByText := true, laidKinds := [.funcs], laidTests := true, laidLooks := .later }
def JointMovesCardSaid : Prop := Claim7.holds Tryz.pinned (.plain (OpenSpec.ofChange jointMovesSpec)) jointMovesCard

/-- THE TIED CARD OF 'copestonelaw05.JointRuns'. -/
def jointRunsCard : Claim7 := { stood := { row := jointRunsRow, standIns := [], harness := (true, "3a2da10a4a77cb5131c78d0ef8e769b050cc65da2d15317fe346cda59e203d81"), looks := false }, kinds := [], alts := [], laidByText := true, laidKinds := [.funcs], laidTests := true, laidLooks := .later }
def JointRunsCardSaid : Prop := Claim7.holds Tryz.pinned (.plain (OpenSpec.ofChange jointRunsSpec)) jointRunsCard

/-- THE TIED CARD OF 'copestonelaw05.JointNames'. -/
def jointNamesCard : Claim7 := { stood := { row := jointNamesRow, standIns := [], harness := (true, "3a2da10a4a77cb5131c78d0ef8e769b050cc65da2d15317fe346cda59e203d81"), looks := false }, kinds := [], alts := [], laidByText := true, laidKinds := [.funcs], laidTests := true, laidLooks := .later }
def JointNamesCardSaid : Prop := Claim7.holds Tryz.pinned (.plain (OpenSpec.ofChange jointNamesSpec)) jointNamesCard

/-- THE SECOND FORM's CARD OF 'copestonelaw05.JointOrders'. -/
def jointOrdersUptoCard : Claim7 := { stood := { row := jointOrdersUptoRow, standIns := [], harness := (true, "3a2da10a4a77cb5131c78d0ef8e769b050cc65da2d15317fe346cda59e203d81"), looks := false }, kinds := [], alts := [], laidByText := true, laidKinds := [.funcs], laidTests := true, laidLooks := .later }
def JointOrdersUptoCardSaid : Prop := Claim7.holds Tryz.pinned (.plain (OpenSpec.upto jointOrdersSpec)) jointOrdersUptoCard

/-- THE SECOND FORM's CARD OF 'copestonelaw05.JointMore'. -/
def jointMoreUptoCard : Claim7 := { stood := { row := jointMoreUptoRow, standIns := [], harness := (true, "3a2da10a4a77cb5131c78d0ef8e769b050cc65da2d15317fe346cda59e203d81"), looks := false }, kinds := [], alts := [], laidByText := true, laidKinds := [.funcs], laidTests := true, laidLooks := .later }
def JointMoreUptoCardSaid : Prop := Claim7.holds Tryz.pinned (.plain (OpenSpec.upto jointMoreSpec)) jointMoreUptoCard

/-- THE SECOND FORM's CARD OF 'copestonelaw05.JointMoves'. -/
def jointMovesUptoCard : Claim7 := { stood := { row := jointMovesUptoRow, standIns := [], harness := (true, "3a2da10a4a77cb5131c78d0ef8e769b050cc65da2d15317fe346cda59e203d81"), looks := false }, kinds := [], alts := [], laidByText := true, laidKinds := [.funcs], laidTests := true, laidLooks := .later }
def JointMovesUptoCardSaid : Prop := Claim7.holds Tryz.pinned (.plain (OpenSpec.upto jointMovesSpec)) jointMovesUptoCard

/-- THE SECOND FORM's CARD OF 'copestonelaw05.JointRuns'. -/
def jointRunsUptoCard : Claim7 := { stood := { row := jointRunsUptoRow, standIns := [], harness := (true, "3a2da10a4a77cb5131c78d0ef8e769b050cc65da2d15317fe346cda59e203d81"), looks := false }, kinds := [], alts := [], laidByText := true, laidKinds := [.funcs], laidTests := true, laidLooks := .later }
def JointRunsUptoCardSaid : Prop := Claim7.holds Tryz.pinned (.plain (OpenSpec.upto jointRunsSpec)) jointRunsUptoCard

/-- THE SECOND FORM's CARD OF 'copestonelaw05.JointNames'. -/
def jointNamesUptoCard : Claim7 := { stood := { row := jointNamesUptoRow, standIns := [], harness := (true, "3a2da10a4a77cb5131c78d0ef8e769b050cc65da2d15317fe346cda59e203d81"), looks := false }, kinds := [], alts := [], laidByText := true, laidKinds := [.funcs], laidTests := true, laidLooks := .later }
def JointNamesUptoCardSaid : Prop := Claim7.holds Tryz.pinned (.plain (OpenSpec.upto jointNamesSpec)) jointNamesUptoCard
end Rows
end Go.Proofs.YteipgejmhfpkaaaGreatDoor
