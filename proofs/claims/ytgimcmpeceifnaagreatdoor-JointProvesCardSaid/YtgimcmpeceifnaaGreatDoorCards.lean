/-
  DERIVED. GIVEN WITH THE SEED: THE CARDS: each row of YtgimcmpeceifnaaGreatDoorRows.lean that lists a variable, with what it lists TIED to the program's text (the seventh form; the later family's looks); each row that meets fmt, with fmt's text TOLD by the authors' own Lean function (tested against real Go, not proved from fmt's source: count such statements apart). THE CARD IS WHAT COUNTS. Prove the row's statement (the work); the ties are given (YtgimcmpeceifnaaGreatDoorTie.lean); close each card by the builder's one call (the guide's Derived/Test/ToyasCard.lean, 'card_holds'). Laid BY PROGRAM, IN A SANDBOX (cutbox-door.mjs). By AI agents, Wed Nov 11 2026. No macro, syntax, notation, axiom, sorry.
-/
import Derived.Test.YtgimcmpeceifnaaGreatDoorRows
import GoSem.ClaimSeven
namespace Go.Proofs.YtgimcmpeceifnaaGreatDoor
namespace Rows

/-- THE TIED CARD OF 'copestonelaw05.JointLists'. -/
def jointListsCard : Claim7 := { stood := { row := jointListsRow, standIns := [], harness := (true, "0b56b37d40a0a025b95ec2492357019a609518001105f8d0db719b6fc7ceb768"), looks := false }, kinds := [], alts := [], laidByText := true, laidKinds := [.funcs], laidTests := true, laidLooks := .later }
def JointListsCardSaid : Prop := Claim7.holds Tryz.pinned (.plain (OpenSpec.ofChange jointListsSpec)) jointListsCard

/-- THE TIED CARD OF 'copestonelaw05.JointProves'. -/
def jointProvesCard : Claim7 := { stood := { row := jointProvesRow, standIns := [], harness := (true, "0b56b37d40a0a025b95ec2492357019a609518001105f8d0db719b6fc7ceb768"), looks := false }, kinds := [], alts := [], laidByText := true, laidKinds := [.funcs], laidTests := true, laidLooks := .later }
def JointProvesCardSaid : Prop := Claim7.holds Tryz.pinned (.plain (OpenSpec.ofChange jointProvesSpec)) jointProvesCard

/-- THE TIED CARD OF 'copestonelaw05.JointBares'. -/
def jointBaresCard : Claim7 := { stood := { row := jointBaresRow, standIns := [], harness := (true, "0b56b37d40a0a025b95ec2492357019a609518001105f8d0db719b6fc7ceb768"), looks := false }, kinds := [], alts := [], laidByText := true, laidKinds := [.funcs], laidTests := true, laidLooks := .later }
def JointBaresCardSaid : Prop := Claim7.holds Tryz.pinned (.plain (OpenSpec.ofChange jointBaresSpec)) jointBaresCard

/-- THE TIED CARD OF 'copestonelaw05.JointRoots'. -/
def jointRootsCard : Claim7 := { stood := { row := jointRootsRow, standIns := [], harness := (true, "0b56b37d40a0a025b95ec2492357019a609518001105f8d0db719b6fc7ceb768"), looks := false }, kinds := [], alts := [], laidByText := true, laidKinds := [.funcs], laidTests := true, laidLooks := .later }
def JointRootsCardSaid : Prop := Claim7.holds Tryz.pinned (.plain (OpenSpec.ofChange jointRootsSpec)) jointRootsCard

/-- THE TIED CARD OF 'copestonelaw05.JointCourses'. -/
def jointCoursesCard : Claim7 := { stood := { row := jointCoursesRow, standIns := [], harness := (true, "0b56b37d40a0a025b95ec2492357019a609518001105f8d0db719b6fc7ceb768"), looks := false }, kinds := [], alts := [], laidByText := true, laidKinds := [.funcs], laidTests := true, laidLooks := .later }
def JointCoursesCardSaid : Prop := Claim7.holds Tryz.pinned (.plain (OpenSpec.ofChange jointCoursesSpec)) jointCoursesCard

/-- THE SECOND FORM's CARD OF 'copestonelaw05.JointLists'. -/
def jointListsUptoCard : Claim7 := { stood := { row := jointListsUptoRow, standIns := [], harness := (true, "0b56b37d40a0a025b95ec2492357019a609518001105f8d0db719b6fc7ceb768"), looks := false }, kinds := [], alts := [], laidByText := true, laidKinds := [.funcs], laidTests := true, laidLooks := .later }
def JointListsUptoCardSaid : Prop := Claim7.holds Tryz.pinned (.plain (OpenSpec.upto jointListsSpec)) jointListsUptoCard

/-- THE SECOND FORM's CARD OF 'copestonelaw05.JointProves'. -/
def jointProvesUptoCard : Claim7 := { stood := { row := jointProvesUptoRow, standIns := [], harness := (true, "0b56b37d40a0a025b95ec2492357019a609518001105f8d0db719b6fc7ceb768"), looks := false }, kinds := [], alts := [], laidByText := true, laidKinds := [.funcs], laidTests := true, laidLooks := .later }
def JointProvesUptoCardSaid : Prop := Claim7.holds Tryz.pinned (.plain (OpenSpec.upto jointProvesSpec)) jointProvesUptoCard

/-- THE SECOND FORM's CARD OF 'copestonelaw05.JointBares'. -/
def jointBaresUptoCard : Claim7 := { stood := { row := jointBaresUptoRow, standIns := [], harness := (true, "0b56b37d40a0a025b95ec2492357019a609518001105f8d0db719b6fc7ceb768"), looks := false }, kinds := [], alts := [], laidByText := true, laidKinds := [.funcs], laidTests := true, laidLooks := .later }
def JointBaresUptoCardSaid : Prop := Claim7.holds Tryz.pinned (.plain (OpenSpec.upto jointBaresSpec)) jointBaresUptoCard

/-- THE SECOND FORM's CARD OF 'copestonelaw05.JointRoots'. -/
def jointRootsUptoCard : Claim7 := { stood := { row := jointRootsUptoRow, standIns := [], harness := (true, "0b56b37d40a0a025b95ec2492357019a609518001105f8d0db719b6fc7ceb768"), looks := false }, kinds := [], alts := [], laidByText := true, laidKinds := [.funcs], laidTests := true, laidLooks := .later }
def JointRootsUptoCardSaid : Prop := Claim7.holds Tryz.pinned (.plain (OpenSpec.upto jointRootsSpec)) jointRootsUptoCard

/-- THE SECOND FORM's CARD OF 'copestonelaw05.JointCourses'. -/
def jointCoursesUptoCard : Claim7 := { stood := { row := jointCoursesUptoRow, standIns := [], harness := (true, "0b56b37d40a0a025b95ec2492357019a609518001105f8d0db719b6fc7ceb768"), looks := false }, kinds := [], alts := [], laidByText := true, laidKinds := [.funcs], laidTests := true, laidLooks := .later }
def JointCoursesUptoCardSaid : Prop := Claim7.holds Tryz.pinned (.plain (OpenSpec.upto jointCoursesSpec)) jointCoursesUptoCard
end Rows
end Go.Proofs.YtgimcmpeceifnaaGreatDoor
