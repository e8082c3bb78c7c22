/-
  NARROWER THAN 'FOR EVERY INPUT', by the rows' own cells (each row's printed sentence says how): PlaceDrops: laid · PlaceBeds: laid · PlaceStands: laid · PlaceRelates: laid.
  DERIVED. THE GIVEN ROWS OF THIS SEAT. 4 by the template 'for every input the law returns true; each argument reads behind the call as it read before'; 0 by the template 'total and deterministic' (their statements: YtjnjpagegkcgfaaGreatDoorTotals.lean).
  GIVEN WITH THE SEED: the statements are not yours to turn. If you find one false, say at which input.
  Laid BY PROGRAM, IN A SANDBOX (cutbox-rows.mjs): the forced cells as the released guide's own fill.sh prints them over the translation dff8d48604dda6a4… (all of the seat's roots in one cut). By AI agents, Wed Nov 11 2026. No macro, syntax, notation, axiom, sorry.
-/
import Derived.Test.YtjnjpagegkcgfaaGreatDoorChecked
import GoSem.PinnedTables
import GoSem.Claim
import GoSem.ClaimJoined
import GoSem.ClaimMapViews
import Derived.JoinedTies
import Derived.KernelRfl
namespace Go.Proofs.YtjnjpagegkcgfaaGreatDoor
/- THE CELL 'sum', in the pinned program and in every row, IS THE sha256 OF THE DUMP (.gsa) THAT YtjnjpagegkcgfaaGreatDoorProg.lean LOADS. Nothing in Lean hashes anything: it is a label: what it is worth is what the hold of that sum in a sandbox is worth. -/
noncomputable def Tryz.pinned : Pinned := { name := "ytjnjpagegkcgfaagreatdoor", sum := "dff8d48604dda6a47ff5a64f63c807cd151bdf20304dcb9fb51fc96ff72ae6cb", checked := Tryz.checked }
namespace Rows
def none {H : Type} : Left H := { results := [], args := [] }

/- WHAT THE LISTED PACKAGE-LEVEL VARIABLES READ AS WHEN THE CALL BEGINS. Each datum BY PROGRAM (the guide's laid-datum.mjs) off the statement by which the dump's own 'gosem.cut.vars' lays the variable. In a bare row this is a premise. The card (YtjnjpagegkcgfaaGreatDoorCards.lean) ties it to the program's text. -/
def laid_unicode_utf8_acceptRanges {H : Type} : DataW H := .agg [.agg [.lit (.int .u8 128), .lit (.int .u8 191)], .agg [.lit (.int .u8 160), .lit (.int .u8 191)], .agg [.lit (.int .u8 128), .lit (.int .u8 159)], .agg [.lit (.int .u8 144), .lit (.int .u8 191)], .agg [.lit (.int .u8 128), .lit (.int .u8 143)], .agg [.lit (.int .u8 0), .lit (.int .u8 0)], .agg [.lit (.int .u8 0), .lit (.int .u8 0)], .agg [.lit (.int .u8 0), .lit (.int .u8 0)], .agg [.lit (.int .u8 0), .lit (.int .u8 0)], .agg [.lit (.int .u8 0), .lit (.int .u8 0)], .agg [.lit (.int .u8 0), .lit (.int .u8 0)], .agg [.lit (.int .u8 0), .lit (.int .u8 0)], .agg [.lit (.int .u8 0), .lit (.int .u8 0)], .agg [.lit (.int .u8 0), .lit (.int .u8 0)], .agg [.lit (.int .u8 0), .lit (.int .u8 0)], .agg [.lit (.int .u8 0), .lit (.int .u8 0)]]
def laid_copestone_stone_ways {H : Type} : DataW H := .iface "func table" (.agg [.iface "func" (.lit (.string [99, 111, 112, 101, 115, 116, 111, 110, 101, 47, 115, 116, 111, 110, 101, 46, 119, 97, 121, 115, 36, 49])), .iface "func" (.lit (.string [99, 111, 112, 101, 115, 116, 111, 110, 101, 47, 115, 116, 111, 110, 101, 46, 119, 97, 121, 115, 36, 50])), .iface "func" (.lit (.string [99, 111, 112, 101, 115, 116, 111, 110, 101, 47, 115, 116, 111, 110, 101, 46, 119, 97, 121, 115, 36, 51])), .iface "func" (.lit (.string [99, 111, 112, 101, 115, 116, 111, 110, 101, 47, 115, 116, 111, 110, 101, 46, 119, 97, 121, 115, 36, 52]))])
/-- One of Go's own tables, pinned by name: the form's constant. -/
def laid_unicode_utf8_first : DataW Unit := Go.Pinned.utf8First

/-- 'copestonelaw03.PlaceDrops': WHATEVER THE INPUT: true; the input reads as it did. -/
def placeDropsSpec : ChangeSpec := { name := "placeDrops", fn := fun _ => fun
  | [d1, d2] => { results := [.lit (.bool true)], args := [d1, d2] }
  | _ => none }
def placeDropsRow : OpenClaim := { program := "ytjnjpagegkcgfaagreatdoor", sum := "dff8d48604dda6a47ff5a64f63c807cd151bdf20304dcb9fb51fc96ff72ae6cb", func := "copestone/copestonelaw03.PlaceDrops", spec := "placeDrops", inPlace := ["internal/abi.NoEscape", "internal/bytealg.MakeNoZero", "internal/bytealg.IndexByteString", "internal/bytealg.IndexString"], unfollowed := true, recurses := true, named := ["copestone/stone.ways", "unicode/utf8.first", "unicode/utf8.acceptRanges", "internal/bytealg.MaxLen"], apart := false, laid := [("unicode/utf8.acceptRanges", laid_unicode_utf8_acceptRanges), ("copestone/stone.ways", laid_copestone_stone_ways), ("unicode/utf8.first", laid_unicode_utf8_first)] }
def PlaceDropsSaid : Prop := placeDropsRow.holds Tryz.pinned (OpenSpec.ofChange placeDropsSpec)

/-- ITS FALSE NEIGHBOUR: 'it returns false'. Refute it at one input. -/
def placeDropsWrong : ChangeSpec := { name := "placeDrops", fn := fun _ => fun
  | [d1, d2] => { results := [.lit (.bool false)], args := [d1, d2] }
  | _ => none }
def PlaceDropsWrongFalsely : Prop := placeDropsRow.holds Tryz.pinned (OpenSpec.ofChange placeDropsWrong)

/-- 'copestonelaw03.PlaceBeds': WHATEVER THE INPUT: true; the input reads as it did. -/
def placeBedsSpec : ChangeSpec := { name := "placeBeds", fn := fun _ => fun
  | [d1, d2, d3, d4, d5] => { results := [.lit (.bool true)], args := [d1, d2, d3, d4, d5] }
  | _ => none }
def placeBedsRow : OpenClaim := { program := "ytjnjpagegkcgfaagreatdoor", sum := "dff8d48604dda6a47ff5a64f63c807cd151bdf20304dcb9fb51fc96ff72ae6cb", func := "copestone/copestonelaw03.PlaceBeds", spec := "placeBeds", inPlace := ["internal/abi.NoEscape", "internal/bytealg.MakeNoZero", "internal/bytealg.IndexByteString", "internal/bytealg.IndexString"], unfollowed := true, recurses := true, named := ["copestone/stone.ways", "unicode/utf8.first", "unicode/utf8.acceptRanges", "internal/bytealg.MaxLen"], apart := false, laid := [("unicode/utf8.acceptRanges", laid_unicode_utf8_acceptRanges), ("copestone/stone.ways", laid_copestone_stone_ways), ("unicode/utf8.first", laid_unicode_utf8_first)] }
def PlaceBedsSaid : Prop := placeBedsRow.holds Tryz.pinned (OpenSpec.ofChange placeBedsSpec)

/-- ITS FALSE NEIGHBOUR: 'it returns false'. Refute it at one input. -/
def placeBedsWrong : ChangeSpec := { name := "placeBeds", fn := fun _ => fun
  | [d1, d2, d3, d4, d5] => { results := [.lit (.bool false)], args := [d1, d2, d3, d4, d5] }
  | _ => none }
def PlaceBedsWrongFalsely : Prop := placeBedsRow.holds Tryz.pinned (OpenSpec.ofChange placeBedsWrong)

/-- 'copestonelaw03.PlaceStands': WHATEVER THE INPUT: true; the input reads as it did. -/
def placeStandsSpec : ChangeSpec := { name := "placeStands", fn := fun _ => fun
  | [d1, d2] => { results := [.lit (.bool true)], args := [d1, d2] }
  | _ => none }
def placeStandsRow : OpenClaim := { program := "ytjnjpagegkcgfaagreatdoor", sum := "dff8d48604dda6a47ff5a64f63c807cd151bdf20304dcb9fb51fc96ff72ae6cb", func := "copestone/copestonelaw03.PlaceStands", spec := "placeStands", inPlace := ["internal/abi.NoEscape", "internal/bytealg.MakeNoZero", "internal/bytealg.IndexByteString", "internal/bytealg.IndexString"], unfollowed := true, recurses := true, named := ["copestone/stone.ways", "unicode/utf8.first", "unicode/utf8.acceptRanges", "internal/bytealg.MaxLen"], apart := false, laid := [("unicode/utf8.acceptRanges", laid_unicode_utf8_acceptRanges), ("copestone/stone.ways", laid_copestone_stone_ways), ("unicode/utf8.first", laid_unicode_utf8_first)] }
def PlaceStandsSaid : Prop := placeStandsRow.holds Tryz.pinned (OpenSpec.ofChange placeStandsSpec)

/-- ITS FALSE NEIGHBOUR: 'it returns false'. Refute it at one input. -/
def placeStandsWrong : ChangeSpec := { name := "placeStands", fn := fun _ => fun
  | [d1, d2] => { results := [.lit (.bool false)], args := [d1, d2] }
  | _ => none }
def PlaceStandsWrongFalsely : Prop := placeStandsRow.holds Tryz.pinned (OpenSpec.ofChange placeStandsWrong)

/-- 'copestonelaw03.PlaceRelates': WHATEVER THE INPUT: true; the input reads as it did. -/
def placeRelatesSpec : ChangeSpec := { name := "placeRelates", fn := fun _ => fun
  | [d1, d2] => { results := [.lit (.bool true)], args := [d1, d2] }
  | _ => none }
def placeRelatesRow : OpenClaim := { program := "ytjnjpagegkcgfaagreatdoor", sum := "dff8d48604dda6a47ff5a64f63c807cd151bdf20304dcb9fb51fc96ff72ae6cb", func := "copestone/copestonelaw03.PlaceRelates", spec := "placeRelates", inPlace := ["internal/abi.NoEscape", "internal/bytealg.MakeNoZero", "internal/bytealg.IndexByteString", "internal/bytealg.IndexString"], unfollowed := true, recurses := true, named := ["copestone/stone.ways", "unicode/utf8.first", "unicode/utf8.acceptRanges", "internal/bytealg.MaxLen"], apart := false, laid := [("unicode/utf8.acceptRanges", laid_unicode_utf8_acceptRanges), ("copestone/stone.ways", laid_copestone_stone_ways), ("unicode/utf8.first", laid_unicode_utf8_first)] }
def PlaceRelatesSaid : Prop := placeRelatesRow.holds Tryz.pinned (OpenSpec.ofChange placeRelatesSpec)

/-- ITS FALSE NEIGHBOUR: 'it returns false'. Refute it at one input. -/
def placeRelatesWrong : ChangeSpec := { name := "placeRelates", fn := fun _ => fun
  | [d1, d2] => { results := [.lit (.bool false)], args := [d1, d2] }
  | _ => none }
def PlaceRelatesWrongFalsely : Prop := placeRelatesRow.holds Tryz.pinned (OpenSpec.ofChange placeRelatesWrong)

/- THE SECOND FORM. 'bulk': how many values and letters a reading holds, each counted each time it is reached (what is shared counts as often as it is met; a slice's spare places count too). A statement '..UptoSaid' is the law's where the arguments, and the package variables that the reading takes, are together of bulk at most 1048576: NARROWER than '..Said'. Prove '..Said' where nothing that the law and all that it calls make is longer than what came in: it says more and counts as full. Else prove '..UptoSaid'. A law counts once. -/
mutual
def uptoBulk {H : Type} : DataW H → Nat
  | .lit (.string bytes) => bytes.length + 1
  | .lit _ => 1
  | .nil => 1
  | .ptr d => uptoBulk d + 1
  | .slice elems spare => uptoBulkAll elems + uptoBulkAll spare + 1
  | .agg parts => uptoBulkAll parts + 1
  | .iface _ d => uptoBulk d + 1
  | .map entries => uptoBulkEntries entries + 1
  | .held _ => 1
def uptoBulkAll {H : Type} : List (DataW H) → Nat
  | [] => 0
  | d :: r => uptoBulk d + uptoBulkAll r
def uptoBulkEntries {H : Type} : List (Lit × DataW H) → Nat
  | [] => 0
  | x :: r => uptoBulkEntry x + uptoBulkEntries r
def uptoBulkEntry {H : Type} : Lit × DataW H → Nat
  | (.string bytes, d) => bytes.length + uptoBulk d + 1
  | (_, d) => uptoBulk d + 1
 end
def uptoSmall : (H : Type) → List (DataW H) → Bool := fun _ ds => decide (uptoBulkAll ds ≤ 1048576)
def OpenSpec.upto (s : _root_.Go.ChangeSpec) : _root_.Go.OpenSpec := { _root_.Go.OpenSpec.ofChange s with cond := some uptoSmall }

/-- 'copestonelaw03.PlaceDrops', WHERE WHAT IT READS IS OF BULK AT MOST 1048576: true; the input reads as it did. -/
def placeDropsUptoRow : OpenClaim := { program := "ytjnjpagegkcgfaagreatdoor", sum := "dff8d48604dda6a47ff5a64f63c807cd151bdf20304dcb9fb51fc96ff72ae6cb", func := "copestone/copestonelaw03.PlaceDrops", spec := "placeDrops", inPlace := ["internal/abi.NoEscape", "internal/bytealg.MakeNoZero", "internal/bytealg.IndexByteString", "internal/bytealg.IndexString"], unfollowed := true, recurses := true, named := ["copestone/stone.ways", "unicode/utf8.first", "unicode/utf8.acceptRanges", "internal/bytealg.MaxLen"], apart := false, laid := [("unicode/utf8.acceptRanges", laid_unicode_utf8_acceptRanges), ("copestone/stone.ways", laid_copestone_stone_ways), ("unicode/utf8.first", laid_unicode_utf8_first)], narrowed := true }
def PlaceDropsUptoSaid : Prop := placeDropsUptoRow.holds Tryz.pinned (OpenSpec.upto placeDropsSpec)

/-- 'copestonelaw03.PlaceBeds', WHERE WHAT IT READS IS OF BULK AT MOST 1048576: true; the input reads as it did. -/
def placeBedsUptoRow : OpenClaim := { program := "ytjnjpagegkcgfaagreatdoor", sum := "dff8d48604dda6a47ff5a64f63c807cd151bdf20304dcb9fb51fc96ff72ae6cb", func := "copestone/copestonelaw03.PlaceBeds", spec := "placeBeds", inPlace := ["internal/abi.NoEscape", "internal/bytealg.MakeNoZero", "internal/bytealg.IndexByteString", "internal/bytealg.IndexString"], unfollowed := true, recurses := true, named := ["copestone/stone.ways", "unicode/utf8.first", "unicode/utf8.acceptRanges", "internal/bytealg.MaxLen"], apart := false, laid := [("unicode/utf8.acceptRanges", laid_unicode_utf8_acceptRanges), ("copestone/stone.ways", laid_copestone_stone_ways), ("unicode/utf8.first", laid_unicode_utf8_first)], narrowed := true }
def PlaceBedsUptoSaid : Prop := placeBedsUptoRow.holds Tryz.pinned (OpenSpec.upto placeBedsSpec)

/-- 'copestonelaw03.PlaceStands', WHERE WHAT IT READS IS OF BULK AT MOST 1048576: true; the input reads as it did. -/
def placeStandsUptoRow : OpenClaim := { program := "ytjnjpagegkcgfaagreatdoor", sum := "dff8d48604dda6a47ff5a64f63c807cd151bdf20304dcb9fb51fc96ff72ae6cb", func := "copestone/copestonelaw03.PlaceStands", spec := "placeStands", inPlace := ["internal/abi.NoEscape", "internal/bytealg.MakeNoZero", "internal/bytealg.IndexByteString", "internal/bytealg.IndexString"], unfollowed := true, recurses := true, named := ["copestone/stone.ways", "unicode/utf8.first", "unicode/utf8.acceptRanges", "internal/bytealg.MaxLen"], apart := false, laid := [("unicode/utf8.acceptRanges", laid_unicode_utf8_acceptRanges), ("copestone/stone.ways", laid_copestone_stone_ways), ("unicode/utf8.first", laid_unicode_utf8_first)], narrowed := true }
def PlaceStandsUptoSaid : Prop := placeStandsUptoRow.holds Tryz.pinned (OpenSpec.upto placeStandsSpec)

/-- 'copestonelaw03.PlaceRelates', WHERE WHAT IT READS IS OF BULK AT MOST 1048576: true; the input reads as it did. -/
def placeRelatesUptoRow : OpenClaim := { program := "ytjnjpagegkcgfaagreatdoor", sum := "dff8d48604dda6a47ff5a64f63c807cd151bdf20304dcb9fb51fc96ff72ae6cb", func := "copestone/copestonelaw03.PlaceRelates", spec := "placeRelates", inPlace := ["internal/abi.NoEscape", "internal/bytealg.MakeNoZero", "internal/bytealg.IndexByteString", "internal/bytealg.IndexString"], unfollowed := true, recurses := true, named := ["copestone/stone.ways", "unicode/utf8.first", "unicode/utf8.acceptRanges", "internal/bytealg.MaxLen"], apart := false, laid := [("unicode/utf8.acceptRanges", laid_unicode_utf8_acceptRanges), ("copestone/stone.ways", laid_copestone_stone_ways), ("unicode/utf8.first", laid_unicode_utf8_first)], narrowed := true }
def PlaceRelatesUptoSaid : Prop := placeRelatesUptoRow.holds Tryz.pinned (OpenSpec.upto placeRelatesSpec)

end Rows
end Go.Proofs.YtjnjpagegkcgfaaGreatDoor
