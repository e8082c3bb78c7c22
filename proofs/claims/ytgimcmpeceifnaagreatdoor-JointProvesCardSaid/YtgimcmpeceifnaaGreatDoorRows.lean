/-
  NARROWER THAN 'FOR EVERY INPUT', by the rows' own cells (each row's printed sentence says how): JointLists: laid · JointProves: laid · JointBares: laid · JointRoots: laid · JointCourses: laid.
  DERIVED. THE GIVEN ROWS OF THIS SEAT. 5 by the template 'for every input the law returns true; each argument reads behind the call as it read before'; 0 by the template 'total and deterministic' (their statements: YtgimcmpeceifnaaGreatDoorTotals.lean).
  GIVEN WITH THE SEED: the statements are not yours to turn. If you find one false, say at which input.
  Laid BY PROGRAM, IN A SANDBOX (cutbox-rows.mjs): the forced cells as the released guide's own fill.sh prints them over the translation a700212f9588047d… (all of the seat's roots in one cut). By AI agents, Wed Nov 11 2026. No macro, syntax, notation, axiom, sorry.
-/
import Derived.Test.YtgimcmpeceifnaaGreatDoorChecked
import GoSem.Claim
import GoSem.ClaimJoined
import GoSem.ClaimMapViews
import Derived.JoinedTies
import Derived.KernelRfl
namespace Go.Proofs.YtgimcmpeceifnaaGreatDoor
/- THE CELL 'sum', in the pinned program and in every row, IS THE sha256 OF THE DUMP (.gsa) THAT YtgimcmpeceifnaaGreatDoorProg.lean LOADS. Nothing in Lean hashes anything: it is a label: what it is worth is what the hold of that sum in a sandbox is worth. -/
noncomputable def Tryz.pinned : Pinned := { name := "ytgimcmpeceifnaagreatdoor", sum := "a700212f9588047d0dc66c06b8a418956525a578e9762e997e3a1717b6f9f3ae", checked := Tryz.checked }
namespace Rows
def none {H : Type} : Left H := { results := [], args := [] }

/- WHAT THE LISTED PACKAGE-LEVEL VARIABLES READ AS WHEN THE CALL BEGINS. Each datum BY PROGRAM (the guide's laid-datum.mjs) off the statement by which the dump's own 'gosem.cut.vars' lays the variable. In a bare row this is a premise. The card (YtgimcmpeceifnaaGreatDoorCards.lean) ties it to the program's text. -/
def laid_copestone_stone_ways {H : Type} : DataW H := .iface "func table" (.agg [.iface "func" (.lit (.string [99, 111, 112, 101, 115, 116, 111, 110, 101, 47, 115, 116, 111, 110, 101, 46, 119, 97, 121, 115, 36, 49])), .iface "func" (.lit (.string [99, 111, 112, 101, 115, 116, 111, 110, 101, 47, 115, 116, 111, 110, 101, 46, 119, 97, 121, 115, 36, 50])), .iface "func" (.lit (.string [99, 111, 112, 101, 115, 116, 111, 110, 101, 47, 115, 116, 111, 110, 101, 46, 119, 97, 121, 115, 36, 51])), .iface "func" (.lit (.string [99, 111, 112, 101, 115, 116, 111, 110, 101, 47, 115, 116, 111, 110, 101, 46, 119, 97, 121, 115, 36, 52]))])

/-- 'copestonelaw05.JointLists': WHATEVER THE INPUT: true; the input reads as it did. -/
def jointListsSpec : ChangeSpec := { name := "jointLists", fn := fun _ => fun
  | [d1, d2] => { results := [.lit (.bool true)], args := [d1, d2] }
  | _ => none }
def jointListsRow : OpenClaim := { program := "ytgimcmpeceifnaagreatdoor", sum := "a700212f9588047d0dc66c06b8a418956525a578e9762e997e3a1717b6f9f3ae", func := "copestone/copestonelaw05.JointLists", spec := "jointLists", unfollowed := true, recurses := true, named := ["copestone/stone.ways"], apart := false, laid := [("copestone/stone.ways", laid_copestone_stone_ways)] }
def JointListsSaid : Prop := jointListsRow.holds Tryz.pinned (OpenSpec.ofChange jointListsSpec)

/-- ITS FALSE NEIGHBOUR: 'it returns false'. Refute it at one input. -/
def jointListsWrong : ChangeSpec := { name := "jointLists", fn := fun _ => fun
  | [d1, d2] => { results := [.lit (.bool false)], args := [d1, d2] }
  | _ => none }
def JointListsWrongFalsely : Prop := jointListsRow.holds Tryz.pinned (OpenSpec.ofChange jointListsWrong)

/-- 'copestonelaw05.JointProves': WHATEVER THE INPUT: true; the input reads as it did. -/
def jointProvesSpec : ChangeSpec := { name := "jointProves", fn := fun _ => fun
  | [d1, d2, d3, d4, d5, d6] => { results := [.lit (.bool true)], args := [d1, d2, d3, d4, d5, d6] }
  | _ => none }
def jointProvesRow : OpenClaim := { program := "ytgimcmpeceifnaagreatdoor", sum := "a700212f9588047d0dc66c06b8a418956525a578e9762e997e3a1717b6f9f3ae", func := "copestone/copestonelaw05.JointProves", spec := "jointProves", unfollowed := true, recurses := true, named := ["copestone/stone.ways"], apart := false, laid := [("copestone/stone.ways", laid_copestone_stone_ways)] }
def JointProvesSaid : Prop := jointProvesRow.holds Tryz.pinned (OpenSpec.ofChange jointProvesSpec)

/-- ITS FALSE NEIGHBOUR: 'it returns false'. Refute it at one input. -/
def jointProvesWrong : ChangeSpec := { name := "jointProves", fn := fun _ => fun
  | [d1, d2, d3, d4, d5, d6] => { results := [.lit (.bool false)], args := [d1, d2, d3, d4, d5, d6] }
  | _ => none }
def JointProvesWrongFalsely : Prop := jointProvesRow.holds Tryz.pinned (OpenSpec.ofChange jointProvesWrong)

/-- 'copestonelaw05.JointBares': WHATEVER THE INPUT: true; the input reads as it did. -/
def jointBaresSpec : ChangeSpec := { name := "jointBares", fn := fun _ => fun
  | [d1, d2, d3, d4, d5] => { results := [.lit (.bool true)], args := [d1, d2, d3, d4, d5] }
  | _ => none }
def jointBaresRow : OpenClaim := { program := "ytgimcmpeceifnaagreatdoor", sum := "a700212f9588047d0dc66c06b8a418956525a578e9762e997e3a1717b6f9f3ae", func := "copestone/copestonelaw05.JointBares", spec := "jointBares", unfollowed := true, recurses := true, named := ["copestone/stone.ways"], apart := false, laid := [("copestone/stone.ways", laid_copestone_stone_ways)] }
def JointBaresSaid : Prop := jointBaresRow.holds Tryz.pinned (OpenSpec.ofChange jointBaresSpec)

/-- ITS FALSE NEIGHBOUR: 'it returns false'. Refute it at one input. -/
def jointBaresWrong : ChangeSpec := { name := "jointBares", fn := fun _ => fun
  | [d1, d2, d3, d4, d5] => { results := [.lit (.bool false)], args := [d1, d2, d3, d4, d5] }
  | _ => none }
def JointBaresWrongFalsely : Prop := jointBaresRow.holds Tryz.pinned (OpenSpec.ofChange jointBaresWrong)

/-- 'copestonelaw05.JointRoots': WHATEVER THE INPUT: true; the input reads as it did. -/
def jointRootsSpec : ChangeSpec := { name := "jointRoots", fn := fun _ => fun
  | [d1, d2] => { results := [.lit (.bool true)], args := [d1, d2] }
  | _ => none }
def jointRootsRow : OpenClaim := { program := "ytgimcmpeceifnaagreatdoor", sum := "a700212f9588047d0dc66c06b8a418956525a578e9762e997e3a1717b6f9f3ae", func := "copestone/copestonelaw05.JointRoots", spec := "jointRoots", unfollowed := true, recurses := true, named := ["copestone/stone.ways"], apart := false, laid := [("copestone/stone.ways", laid_copestone_stone_ways)] }
def JointRootsSaid : Prop := jointRootsRow.holds Tryz.pinned (OpenSpec.ofChange jointRootsSpec)

/-- ITS FALSE NEIGHBOUR: 'it returns false'. Refute it at one input. -/
def jointRootsWrong : ChangeSpec := { name := "jointRoots", fn := fun _ => fun
  | [d1, d2] => { results := [.lit (.bool false)], args := [d1, d2] }
  | _ => none }
def JointRootsWrongFalsely : Prop := jointRootsRow.holds Tryz.pinned (OpenSpec.ofChange jointRootsWrong)

/-- 'copestonelaw05.JointCourses': WHATEVER THE INPUT: true; the input reads as it did. -/
def jointCoursesSpec : ChangeSpec := { name := "jointCourses", fn := fun _ => fun
  | [d1, d2] => { results := [.lit (.bool true)], args := [d1, d2] }
  | _ => none }
def jointCoursesRow : OpenClaim := { program := "ytgimcmpeceifnaagreatdoor", sum := "a700212f9588047d0dc66c06b8a418956525a578e9762e997e3a1717b6f9f3ae", func := "copestone/copestonelaw05.JointCourses", spec := "jointCourses", unfollowed := true, recurses := true, named := ["copestone/stone.ways"], apart := false, laid := [("copestone/stone.ways", laid_copestone_stone_ways)] }
def JointCoursesSaid : Prop := jointCoursesRow.holds Tryz.pinned (OpenSpec.ofChange jointCoursesSpec)

/-- ITS FALSE NEIGHBOUR: 'it returns false'. Refute it at one input. -/
def jointCoursesWrong : ChangeSpec := { name := "jointCourses", fn := fun _ => fun
  | [d1, d2] => { results := [.lit (.bool false)], args := [d1, d2] }
  | _ => none }
def JointCoursesWrongFalsely : Prop := jointCoursesRow.holds Tryz.pinned (OpenSpec.ofChange jointCoursesWrong)

/- THE SECOND FORM. 'bulk': how many values and letters a reading holds, each counted each time it is reached (what is shared counts as often as it is met; a slice's spare places count too). A statement '..UptoSaid' is the law's where the arguments, and the package variables that the reading takes, are together of bulk at most 1048576: NARROWER than '..Said'. Prove '..Said' where nothing that the law and all that it calls make is longer than what came in: it says more and counts as full. Else prove '..UptoSaid'. A law counts once. -/
mutual
def uptoBulk {H : Type} : DataW H → Nat
  | .lit (.string bytes) => bytes.length + 1
  | .lit _ => 1
  | .nil => 1
  | .ptr d => uptoBulk d + 1
  | .slice elems spare => uptoBulkAll elems + uptoBulkAll spare + 1
  | .agg parts => uptoBulkAll parts + 1
  | .iface _ d => uptoBulk d + 1
  | .map entries => uptoBulkEntries entries + 1
  | .held _ => 1
def uptoBulkAll {H : Type} : List (DataW H) → Nat
  | [] => 0
  | d :: r => uptoBulk d + uptoBulkAll r
def uptoBulkEntries {H : Type} : List (Lit × DataW H) → Nat
  | [] => 0
  | x :: r => uptoBulkEntry x + uptoBulkEntries r
def uptoBulkEntry {H : Type} : Lit × DataW H → Nat
  | (.string bytes, d) => bytes.length + uptoBulk d + 1
  | (_, d) => uptoBulk d + 1
 end
def uptoSmall : (H : Type) → List (DataW H) → Bool := fun _ ds => decide (uptoBulkAll ds ≤ 1048576)
def OpenSpec.upto (s : _root_.Go.ChangeSpec) : _root_.Go.OpenSpec := { _root_.Go.OpenSpec.ofChange s with cond := some uptoSmall }

/-- 'copestonelaw05.JointLists', WHERE WHAT IT READS IS OF BULK AT MOST 1048576: true; the input reads as it did. -/
def jointListsUptoRow : OpenClaim := { program := "ytgimcmpeceifnaagreatdoor", sum := "a700212f9588047d0dc66c06b8a418956525a578e9762e997e3a1717b6f9f3ae", func := "copestone/copestonelaw05.JointLists", spec := "jointLists", unfollowed := true, recurses := true, named := ["copestone/stone.ways"], apart := false, laid := [("copestone/stone.ways", laid_copestone_stone_ways)], narrowed := true }
def JointListsUptoSaid : Prop := jointListsUptoRow.holds Tryz.pinned (OpenSpec.upto jointListsSpec)

/-- 'copestonelaw05.JointProves', WHERE WHAT IT READS IS OF BULK AT MOST 1048576: true; the input reads as it did. -/
def jointProvesUptoRow : OpenClaim := { program := "ytgimcmpeceifnaagreatdoor", sum := "a700212f9588047d0dc66c06b8a418956525a578e9762e997e3a1717b6f9f3ae", func := "copestone/copestonelaw05.JointProves", spec := "jointProves", unfollowed := true, recurses := true, named := ["copestone/stone.ways"], apart := false, laid := [("copestone/stone.ways", laid_copestone_stone_ways)], narrowed := true }
def JointProvesUptoSaid : Prop := jointProvesUptoRow.holds Tryz.pinned (OpenSpec.upto jointProvesSpec)

/-- 'copestonelaw05.JointBares', WHERE WHAT IT READS IS OF BULK AT MOST 1048576: true; the input reads as it did. -/
def jointBaresUptoRow : OpenClaim := { program := "ytgimcmpeceifnaagreatdoor", sum := "a700212f9588047d0dc66c06b8a418956525a578e9762e997e3a1717b6f9f3ae", func := "copestone/copestonelaw05.JointBares", spec := "jointBares", unfollowed := true, recurses := true, named := ["copestone/stone.ways"], apart := false, laid := [("copestone/stone.ways", laid_copestone_stone_ways)], narrowed := true }
def JointBaresUptoSaid : Prop := jointBaresUptoRow.holds Tryz.pinned (OpenSpec.upto jointBaresSpec)

/-- 'copestonelaw05.JointRoots', WHERE WHAT IT READS IS OF BULK AT MOST 1048576: true; the input reads as it did. -/
def jointRootsUptoRow : OpenClaim := { program := "ytgimcmpeceifnaagreatdoor", sum := "a700212f9588047d0dc66c06b8a418956525a578e9762e997e3a1717b6f9f3ae", func := "copestone/copestonelaw05.JointRoots", spec := "jointRoots", unfollowed := true, recurses := true, named := ["copestone/stone.ways"], apart := false, laid := [("copestone/stone.ways", laid_copestone_stone_ways)], narrowed := true }
def JointRootsUptoSaid : Prop := jointRootsUptoRow.holds Tryz.pinned (OpenSpec.upto jointRootsSpec)

/-- 'copestonelaw05.JointCourses', WHERE WHAT IT READS IS OF BULK AT MOST 1048576: true; the input reads as it did. -/
def jointCoursesUptoRow : OpenClaim := { program := "ytgimcmpeceifnaagreatdoor", sum := "a700212f9588047d0dc66c06b8a418956525a578e9762e997e3a1717b6f9f3ae", func := "copestone/copestonelaw05.JointCourses", spec := "jointCourses", unfollowed := true, recurses := true, named := ["copestone/stone.ways"], apart := false, laid := [("copestone/stone.ways", laid_copestone_stone_ways)], narrowed := true }
def JointCoursesUptoSaid : Prop := jointCoursesUptoRow.holds Tryz.pinned (OpenSpec.upto jointCoursesSpec)

end Rows
end Go.Proofs.YtgimcmpeceifnaaGreatDoor
