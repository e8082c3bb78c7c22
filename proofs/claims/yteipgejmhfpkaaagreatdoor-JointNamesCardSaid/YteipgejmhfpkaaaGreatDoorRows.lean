/-
  NARROWER THAN 'FOR EVERY INPUT', by the rows' own cells (each row's printed sentence says how): JointOrders: laid · JointMore: laid · JointMoves: laid · JointRuns: laid · JointNames: laid.
  DERIVED. THE GIVEN ROWS OF THIS SEAT. 5 by the template 'for every input the law returns true; each argument reads behind the call as it read before'; 0 by the template 'total and deterministic' (their statements: YteipgejmhfpkaaaGreatDoorTotals.lean).
  GIVEN WITH THE SEED: the statements are not yours to turn. If you find one false, say at which input.
  Laid BY PROGRAM, IN A SANDBOX (cutbox-rows.mjs): the forced cells as the released guide's own fill.sh prints them over the translation e260a91a435851ca… (all of the seat's roots in one cut). By AI agents, Wed Nov 11 2026. No macro, syntax, notation, axiom, sorry.
-/
import Derived.Test.YteipgejmhfpkaaaGreatDoorChecked
import GoSem.Claim
import GoSem.ClaimJoined
import GoSem.ClaimMapViews
import Derived.JoinedTies
import Derived.KernelRfl
namespace Go.Proofs.YteipgejmhfpkaaaGreatDoor
/- THE CELL 'sum', in the pinned program and in every row, IS THE sha256 OF THE DUMP (.gsa) THAT YteipgejmhfpkaaaGreatDoorProg.lean LOADS. Nothing in Lean hashes anything: it is a label: what it is worth is what the hold of that sum in a sandbox is worth. -/
noncomputable def Tryz.pinned : Pinned := { name := "yteipgejmhfpkaaagreatdoor", sum := "e260a91a435851cae548a55b1b7c301284b9f717258a4e1e58e708a9db05d7f9", checked := Tryz.checked }
namespace Rows
def none {H : Type} : Left H := { results := [], args := [] }

/- WHAT THE LISTED PACKAGE-LEVEL VARIABLES READ AS WHEN THE CALL BEGINS. Each datum BY PROGRAM (the guide's laid-datum.mjs) off the statement by which the dump's own 'gosem.cut.vars' lays the variable. In a bare row this is a premise. The card (YteipgejmhfpkaaaGreatDoorCards.lean) ties it to the program's text. -/
def laid_copestone_stone_ways {H : Type} : DataW H := .iface "func table" (.agg [.iface "func" (.lit (.string [99, 111, 112, 101, 115, 116, 111, 110, 101, 47, 115, 116, 111, 110, 101, 46, 119, 97, 121, 115, 36, 49])), .iface "func" (.lit (.string [99, 111, 112, 101, 115, 116, 111, 110, 101, 47, 115, 116, 111, 110, 101, 46, 119, 97, 121, 115, 36, 50])), .iface "func" (.lit (.string [99, 111, 112, 101, 115, 116, 111, 110, 101, 47, 115, 116, 111, 110, 101, 46, 119, 97, 121, 115, 36, 51])), .iface "func" (.lit (.string [99, 111, 112, 101, 115, 116, 111, 110, 101, 47, 115, 116, 111, 110, 101, 46, 119, 97, 121, 115, 36, 52]))])

/-- 'copestonelaw05.JointOrders': WHATEVER THE INPUT: true; the input reads as it did. -/
def jointOrdersSpec : ChangeSpec := { name := "jointOrders", fn := fun _ => fun
  | [d1, d2] => { results := [.lit (.bool true)], args := [d1, d2] }
  | _ => none }
def jointOrdersRow : OpenClaim := { program := "yteipgejmhfpkaaagreatdoor", sum := "e260a91a435851cae548a55b1b7c301284b9f717258a4e1e58e708a9db05d7f9", func := "copestone/copestonelaw05.JointOrders", spec := "jointOrders", unfollowed := true, recurses := true, named := ["copestone/stone.ways"], apart := false, laid := [("copestone/stone.ways", laid_copestone_stone_ways)] }
def JointOrdersSaid : Prop := jointOrdersRow.holds Tryz.pinned (OpenSpec.ofChange jointOrdersSpec)

/-- ITS FALSE NEIGHBOUR: 'it returns false'. Refute it at one input. -/
def jointOrdersWrong : ChangeSpec := { name := "jointOrders", fn := fun _ => fun
  | [d1, d2] => { results := [.lit (.bool false)], args := [d1, d2] }
  | _ => none }
def JointOrdersWrongFalsely : Prop := jointOrdersRow.holds Tryz.pinned (OpenSpec.ofChange jointOrdersWrong)

/-- 'copestonelaw05.JointMore': WHATEVER THE INPUT: true; the input reads as it did. -/
def jointMoreSpec : ChangeSpec := { name := "jointMore", fn := fun _ => fun
  | [d1, d2, d3, d4, d5] => { results := [.lit (.bool true)], args := [d1, d2, d3, d4, d5] }
  | _ => none }
def jointMoreRow : OpenClaim := { program := "yteipgejmhfpkaaagreatdoor", sum := "e260a91a435851cae548a55b1b7c301284b9f717258a4e1e58e708a9db05d7f9", func := "copestone/copestonelaw05.JointMore", spec := "jointMore", unfollowed := true, recurses := true, named := ["copestone/stone.ways"], apart := false, laid := [("copestone/stone.ways", laid_copestone_stone_ways)] }
def JointMoreSaid : Prop := jointMoreRow.holds Tryz.pinned (OpenSpec.ofChange jointMoreSpec)

/-- ITS FALSE NEIGHBOUR: 'it returns false'. Refute it at one input. -/
def jointMoreWrong : ChangeSpec := { name := "jointMore", fn := fun _ => fun
  | [d1, d2, d3, d4, d5] => { results := [.lit (.bool false)], args := [d1, d2, d3, d4, d5] }
  | _ => none }
def JointMoreWrongFalsely : Prop := jointMoreRow.holds Tryz.pinned (OpenSpec.ofChange jointMoreWrong)

/-- 'copestonelaw05.JointMoves': WHATEVER THE INPUT: true; the input reads as it did. -/
def jointMovesSpec : ChangeSpec := { name := "jointMoves", fn := fun _ => fun
  | [d1, d2, d3, d4] => { results := [.lit (.bool true)], args := [d1, d2, d3, d4] }
  | _ => none }
def jointMovesRow : OpenClaim := { program := "yteipgejmhfpkaaagreatdoor", sum := "e260a91a435851cae548a55b1b7c301284b9f717258a4e1e58e708a9db05d7f9", func := "copestone/copestonelaw05.JointMoves", spec := "jointMoves", unfollowed := true, recurses := true, named := ["copestone/stone.ways"], apart := false, laid := [("copestone/stone.ways", laid_copestone_stone_ways)] }
def JointMovesSaid : Prop := jointMovesRow.holds Tryz.pinned (OpenSpec.ofChange jointMovesSpec)

/-- ITS FALSE NEIGHBOUR: 'it returns false'. Refute it at one input. -/
def jointMovesWrong : ChangeSpec := { name := "jointMoves", fn := fun _ => fun
  | [d1, d2, d3, d4] => { results := [.lit (.bool false)], args := [d1, d2, d3, d4] }
  | _ => none }
def JointMovesWrongFalsely : Prop := jointMovesRow.holds Tryz.pinned (OpenSpec.ofChange jointMovesWrong)

/-- 'copestonelaw05.JointRuns': WHATEVER THE INPUT: true; the input reads as it did. -/
def jointRunsSpec : ChangeSpec := { name := "jointRuns", fn := fun _ => fun
  | [d1, d2] => { results := [.lit (.bool true)], args := [d1, d2] }
  | _ => none }
def jointRunsRow : OpenClaim := { program := "yteipgejmhfpkaaagreatdoor", sum := "e260a91a435851cae548a55b1b7c301284b9f717258a4e1e58e708a9db05d7f9", func := "copestone/copestonelaw05.JointRuns", spec := "jointRuns", unfollowed := true, recurses := true, named := ["copestone/stone.ways"], apart := false, laid := [("copestone/stone.ways", laid_copestone_stone_ways)] }
def JointRunsSaid : Prop := jointRunsRow.holds Tryz.pinned (OpenSpec.ofChange jointRunsSpec)

/-- ITS FALSE NEIGHBOUR: 'it returns false'. Refute it at one input. -/
def jointRunsWrong : ChangeSpec := { name := "jointRuns", fn := fun _ => fun
  | [d1, d2] => { results := [.lit (.bool false)], args := [d1, d2] }
  | _ => none }
def JointRunsWrongFalsely : Prop := jointRunsRow.holds Tryz.pinned (OpenSpec.ofChange jointRunsWrong)

/-- 'copestonelaw05.JointNames': WHATEVER THE INPUT: true; the input reads as it did. -/
def jointNamesSpec : ChangeSpec := { name := "jointNames", fn := fun _ => fun
  | [] => { results := [.lit (.bool true)], args := [] }
  | _ => none }
def jointNamesRow : OpenClaim := { program := "yteipgejmhfpkaaagreatdoor", sum := "e260a91a435851cae548a55b1b7c301284b9f717258a4e1e58e708a9db05d7f9", func := "copestone/copestonelaw05.JointNames", spec := "jointNames", unfollowed := true, recurses := true, named := ["copestone/stone.ways"], apart := false, laid := [("copestone/stone.ways", laid_copestone_stone_ways)] }
def JointNamesSaid : Prop := jointNamesRow.holds Tryz.pinned (OpenSpec.ofChange jointNamesSpec)

/-- ITS FALSE NEIGHBOUR: 'it returns false'. Refute it at one input. -/
def jointNamesWrong : ChangeSpec := { name := "jointNames", fn := fun _ => fun
  | [] => { results := [.lit (.bool false)], args := [] }
  | _ => none }
def JointNamesWrongFalsely : Prop := jointNamesRow.holds Tryz.pinned (OpenSpec.ofChange jointNamesWrong)

/- THE SECOND FORM. 'bulk': how many values and letters a reading holds, each counted each time it is reached (what is shared counts as often as it is met; a slice's spare places count too). A statement '..UptoSaid' is the law's where the arguments, and the package variables that the reading takes, are together of bulk at most 1048576: NARROWER than '..Said'. Prove '..Said' where nothing that the law and all that it calls make is longer than what came in: it says more and counts as full. Else prove '..UptoSaid'. A law counts once. -/
mutual
def uptoBulk {H : Type} : DataW H → Nat
  | .lit (.string bytes) => bytes.length + 1
  | .lit _ => 1
  | .nil => 1
  | .ptr d => uptoBulk d + 1
  | .slice elems spare => uptoBulkAll elems + uptoBulkAll spare + 1
  | .agg parts => uptoBulkAll parts + 1
  | .iface _ d => uptoBulk d + 1
  | .map entries => uptoBulkEntries entries + 1
  | .held _ => 1
def uptoBulkAll {H : Type} : List (DataW H) → Nat
  | [] => 0
  | d :: r => uptoBulk d + uptoBulkAll r
def uptoBulkEntries {H : Type} : List (Lit × DataW H) → Nat
  | [] => 0
  | x :: r => uptoBulkEntry x + uptoBulkEntries r
def uptoBulkEntry {H : Type} : Lit × DataW H → Nat
  | (.string bytes, d) => bytes.length + uptoBulk d + 1
  | (_, d) => uptoBulk d + 1
 end
def uptoSmall : (H : Type) → List (DataW H) → Bool := fun _ ds => decide (uptoBulkAll ds ≤ 1048576)
def OpenSpec.upto (s : _root_.Go.ChangeSpec) : _root_.Go.OpenSpec := { _root_.Go.OpenSpec.ofChange s with cond := some uptoSmall }

/-- 'copestonelaw05.JointOrders', WHERE WHAT IT READS IS OF BULK AT MOST 1048576: true; the input reads as it did. -/
def jointOrdersUptoRow : OpenClaim := { program := "yteipgejmhfpkaaagreatdoor", sum := "e260a91a435851cae548a55b1b7c301284b9f717258a4e1e58e708a9db05d7f9", func := "copestone/copestonelaw05.JointOrders", spec := "jointOrders", unfollowed := true, recurses := true, named := ["copestone/stone.ways"], apart := false, laid := [("copestone/stone.ways", laid_copestone_stone_ways)], narrowed := true }
def JointOrdersUptoSaid : Prop := jointOrdersUptoRow.holds Tryz.pinned (OpenSpec.upto jointOrdersSpec)

/-- 'copestonelaw05.JointMore', WHERE WHAT IT READS IS OF BULK AT MOST 1048576: true; the input reads as it did. -/
def jointMoreUptoRow : OpenClaim := { program := "yteipgejmhfpkaaagreatdoor", sum := "e260a91a435851cae548a55b1b7c301284b9f717258a4e1e58e708a9db05d7f9", func := "copestone/copestonelaw05.JointMore", spec := "jointMore", unfollowed := true, recurses := true, named := ["copestone/stone.ways"], apart := false, laid := [("copestone/stone.ways", laid_copestone_stone_ways)], narrowed := true }
def JointMoreUptoSaid : Prop := jointMoreUptoRow.holds Tryz.pinned (OpenSpec.upto jointMoreSpec)

/-- 'copestonelaw05.JointMoves', WHERE WHAT IT READS IS OF BULK AT MOST 1048576: true; the input reads as it did. -/
def jointMovesUptoRow : OpenClaim := { program := "yteipgejmhfpkaaagreatdoor", sum := "e260a91a435851cae548a55b1b7c301284b9f717258a4e1e58e708a9db05d7f9", func := "copestone/copestonelaw05.JointMoves", spec := "jointMoves", unfollowed := true, recurses := true, named := ["copestone/stone.ways"], apart := false, laid := [("copestone/stone.ways", laid_copestone_stone_ways)], narrowed := true }
def JointMovesUptoSaid : Prop := jointMovesUptoRow.holds Tryz.pinned (OpenSpec.upto jointMovesSpec)

/-- 'copestonelaw05.JointRuns', WHERE WHAT IT READS IS OF BULK AT MOST 1048576: true; the input reads as it did. -/
def jointRunsUptoRow : OpenClaim := { program := "yteipgejmhfpkaaagreatdoor", sum := "e260a91a435851cae548a55b1b7c301284b9f717258a4e1e58e708a9db05d7f9", func := "copestone/copestonelaw05.JointRuns", spec := "jointRuns", unfollowed := true, recurses := true, named := ["copestone/stone.ways"], apart := false, laid := [("copestone/stone.ways", laid_copestone_stone_ways)], narrowed := true }
def JointRunsUptoSaid : Prop := jointRunsUptoRow.holds Tryz.pinned (OpenSpec.upto jointRunsSpec)

/-- 'copestonelaw05.JointNames', WHERE WHAT IT READS IS OF BULK AT MOST 1048576: true; the input reads as it did. -/
def jointNamesUptoRow : OpenClaim := { program := "yteipgejmhfpkaaagreatdoor", sum := "e260a91a435851cae548a55b1b7c301284b9f717258a4e1e58e708a9db05d7f9", func := "copestone/copestonelaw05.JointNames", spec := "jointNames", unfollowed := true, recurses := true, named := ["copestone/stone.ways"], apart := false, laid := [("copestone/stone.ways", laid_copestone_stone_ways)], narrowed := true }
def JointNamesUptoSaid : Prop := jointNamesUptoRow.holds Tryz.pinned (OpenSpec.upto jointNamesSpec)

end Rows
end Go.Proofs.YteipgejmhfpkaaaGreatDoor
