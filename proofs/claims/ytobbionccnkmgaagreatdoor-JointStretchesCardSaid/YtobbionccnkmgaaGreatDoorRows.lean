/-
  NARROWER THAN 'FOR EVERY INPUT', by the rows' own cells (each row's printed sentence says how): JointStretches: laid.
  DERIVED. THE GIVEN ROWS OF THIS SEAT. 1 by the template 'for every input the law returns true; each argument reads behind the call as it read before'; 0 by the template 'total and deterministic' (their statements: YtobbionccnkmgaaGreatDoorTotals.lean).
  GIVEN WITH THE SEED: the statements are not yours to turn. If you find one false, say at which input.
  Laid BY PROGRAM, IN A SANDBOX (cutbox-rows.mjs): the forced cells as the released guide's own fill.sh prints them over the translation 526957277a6a9d75… (all of the seat's roots in one cut). By AI agents, Wed Nov 11 2026. No macro, syntax, notation, axiom, sorry.
-/
import Derived.Test.YtobbionccnkmgaaGreatDoorChecked
import GoSem.Claim
import GoSem.ClaimJoined
import GoSem.ClaimMapViews
import Derived.JoinedTies
import Derived.KernelRfl
namespace Go.Proofs.YtobbionccnkmgaaGreatDoor
/- THE CELL 'sum', in the pinned program and in every row, IS THE sha256 OF THE DUMP (.gsa) THAT YtobbionccnkmgaaGreatDoorProg.lean LOADS. Nothing in Lean hashes anything: it is a label: what it is worth is what the hold of that sum in a sandbox is worth. -/
noncomputable def Tryz.pinned : Pinned := { name := "ytobbionccnkmgaagreatdoor", sum := "526957277a6a9d75d0eb2edb2f6c2b5eb8f35e4ef6b79f87789f86411074df0c", checked := Tryz.checked }
namespace Rows
def none {H : Type} : Left H := { results := [], args := [] }

/- WHAT THE LISTED PACKAGE-LEVEL VARIABLES READ AS WHEN THE CALL BEGINS. Each datum BY PROGRAM (the guide's laid-datum.mjs) off the statement by which the dump's own 'gosem.cut.vars' lays the variable. In a bare row this is a premise. The card (YtobbionccnkmgaaGreatDoorCards.lean) ties it to the program's text. -/
def laid_copestone_stone_ways {H : Type} : DataW H := .iface "func table" (.agg [.iface "func" (.lit (.string [99, 111, 112, 101, 115, 116, 111, 110, 101, 47, 115, 116, 111, 110, 101, 46, 119, 97, 121, 115, 36, 49])), .iface "func" (.lit (.string [99, 111, 112, 101, 115, 116, 111, 110, 101, 47, 115, 116, 111, 110, 101, 46, 119, 97, 121, 115, 36, 50])), .iface "func" (.lit (.string [99, 111, 112, 101, 115, 116, 111, 110, 101, 47, 115, 116, 111, 110, 101, 46, 119, 97, 121, 115, 36, 51])), .iface "func" (.lit (.string [99, 111, 112, 101, 115, 116, 111, 110, 101, 47, 115, 116, 111, 110, 101, 46, 119, 97, 121, 115, 36, 52]))])

/-- 'copestonelaw05.JointStretches': WHATEVER THE INPUT: true; the input reads as it did. -/
def jointStretchesSpec : ChangeSpec := { name := "jointStretches", fn := fun _ => fun
  | [d1, d2, d3, d4, d5, d6, d7] => { results := [.lit (.bool true)], args := [d1, d2, d3, d4, d5, d6, d7] }
  | _ => none }
def jointStretchesRow : OpenClaim := { program := "ytobbionccnkmgaagreatdoor", sum := "526957277a6a9d75d0eb2edb2f6c2b5eb8f35e4ef6b79f87789f86411074df0c", func := "copestone/copestonelaw05.JointStretches", spec := "jointStretches", unfollowed := true, recurses := true, named := ["copestone/stone.ways"], apart := false, laid := [("copestone/stone.ways", laid_copestone_stone_ways)] }
def JointStretchesSaid : Prop := jointStretchesRow.holds Tryz.pinned (OpenSpec.ofChange jointStretchesSpec)

/-- ITS FALSE NEIGHBOUR: 'it returns false'. Refute it at one input. -/
def jointStretchesWrong : ChangeSpec := { name := "jointStretches", fn := fun _ => fun
  | [d1, d2, d3, d4, d5, d6, d7] => { results := [.lit (.bool false)], args := [d1, d2, d3, d4, d5, d6, d7] }
  | _ => none }
def JointStretchesWrongFalsely : Prop := jointStretchesRow.holds Tryz.pinned (OpenSpec.ofChange jointStretchesWrong)

/- THE SECOND FORM. 'bulk': how many values and letters a reading holds, each counted each time it is reached (what is shared counts as often as it is met; a slice's spare places count too). A statement '..UptoSaid' is the law's where the arguments, and the package variables that the reading takes, are together of bulk at most 1048576: NARROWER than '..Said'. Prove '..Said' where nothing that the law and all that it calls make is longer than what came in: it says more and counts as full. Else prove '..UptoSaid'. A law counts once. -/
mutual
def uptoBulk {H : Type} : DataW H → Nat
  | .lit (.string bytes) => bytes.length + 1
  | .lit _ => 1
  | .nil => 1
  | .ptr d => uptoBulk d + 1
  | .slice elems spare => uptoBulkAll elems + uptoBulkAll spare + 1
  | .agg parts => uptoBulkAll parts + 1
  | .iface _ d => uptoBulk d + 1
  | .map entries => uptoBulkEntries entries + 1
  | .held _ => 1
def uptoBulkAll {H : Type} : List (DataW H) → Nat
  | [] => 0
  | d :: r => uptoBulk d + uptoBulkAll r
def uptoBulkEntries {H : Type} : List (Lit × DataW H) → Nat
  | [] => 0
  | x :: r => uptoBulkEntry x + uptoBulkEntries r
def uptoBulkEntry {H : Type} : Lit × DataW H → Nat
  | (.string bytes, d) => bytes.length + uptoBulk d + 1
  | (_, d) => uptoBulk d + 1
 end
def uptoSmall : (H : Type) → List (DataW H) → Bool := fun _ ds => decide (uptoBulkAll ds ≤ 1048576)
def OpenSpec.upto (s : _root_.Go.ChangeSpec) : _root_.Go.OpenSpec := { _root_.Go.OpenSpec.ofChange s with cond := some uptoSmall }

/-- 'copestonelaw05.JointStretches', WHERE WHAT IT READS IS OF BULK AT MOST 1048576: true; the input reads as it did. -/
def jointStretchesUptoRow : OpenClaim := { program := "ytobbionccnkmgaagreatdoor", sum := "526957277a6a9d75d0eb2edb2f6c2b5eb8f35e4ef6b79f87789f86411074df0c", func := "copestone/copestonelaw05.JointStretches", spec := "jointStretches", unfollowed := true, recurses := true, named := ["copestone/stone.ways"], apart := false, laid := [("copestone/stone.ways", laid_copestone_stone_ways)], narrowed := true }
def JointStretchesUptoSaid : Prop := jointStretchesUptoRow.holds Tryz.pinned (OpenSpec.upto jointStretchesSpec)

end Rows
end Go.Proofs.YtobbionccnkmgaaGreatDoor
