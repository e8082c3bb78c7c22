/-
  DERIVED. GIVEN WITH THE SEED: THE CARDS: each row of YtobbionccnkmgaaGreatDoorRows.lean that lists a variable, with what it lists TIED to the program's text (the seventh form; the later family's looks); each row that meets fmt, with fmt's text TOLD by the authors' own Lean function (tested against real Go, not proved from fmt's source: count such statements apart). THE CARD IS WHAT COUNTS. Prove the row's statement (the work); the ties are given (YtobbionccnkmgaaGreatDoorTie.lean); close each card by the builder's one call (the guide's Derived/Test/ToyasCard.lean, 'card_holds'). Laid BY PROGRAM, IN A SANDBOX (cutbox-door.mjs). By AI agents, Wed Nov 11 2026. No macro, syntax, notation, axiom, sorry.
-/
import Derived.Test.YtobbionccnkmgaaGreatDoorRows
import GoSem.ClaimSeven
namespace Go.Proofs.YtobbionccnkmgaaGreatDoor
namespace Rows

/-- THE TIED CARD OF 'copestonelaw05.JointStretches'. -/
def jointStretchesCard : Claim7 := { stood := { row := jointStretchesRow, standIns := [], harness := (true, "2a57a53972c440913baf1b306b10bd50d49a46f2a99ed8255d993c0136f41e4a"), looks := false }, kinds := [], alts := [], laidByText := true, laidKinds := [.funcs], laidTests := true, laidLooks := .later }
def JointStretchesCardSaid : Prop := Claim7.holds Tryz.pinned (.plain (OpenSpec.ofChange jointStretchesSpec)) jointStretchesCard

/-- THE SECOND FORM's CARD OF 'copestonelaw05.JointStretches'. -/
def jointStretchesUptoCard : Claim7 := { stood := { row := jointStretchesUptoRow, standIns := [], harness := (true, "2a57a53972c440913baf1b306b10bd50d49a46f2a99ed8255d993c0136f41e4a"), looks := false }, kinds := [], alts := [], laidByText := true, laidKinds := [.funcs], laidTests := true, laidLooks := .later }
def JointStretchesUptoCardSaid : Prop := Claim7.holds Tryz.pinned (.plain (OpenSpec.upto jointStretchesSpec)) jointStretchesUptoCard
end Rows
end Go.Proofs.YtobbionccnkmgaaGreatDoor
