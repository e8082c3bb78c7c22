/- Part 30: contracts of what the law calls. -/
import Derived.Test.YtjnjpagegkcgfaaGreatDoorCopA27
set_option maxRecDepth 1000000
set_option maxHeartbeats 16000000
set_option linter.unusedSimpArgs false
set_option linter.unusedVariables false
namespace Go.Proofs.YtjnjpagegkcgfaaGreatDoor.Cop
section
open Go Go.ChangeShapes Go.WideShapes Go.ChangeAt Go.RowKit
set_option maxRecDepth 100000
theorem jf1:(Rows.placeDropsRow.inPlace==Tryz.prog.inPlace 3)=true:=kM
theorem jf2:(Rows.placeDropsRow.unfollowed==Tryz.prog.unfollowed 3)=true:=kM
theorem jf3:(Rows.placeDropsRow.recurses==Tryz.prog.recurses 3)=true:=kM
theorem jf4:(Rows.placeDropsRow.named==Tryz.prog.varsNamed 3)=true:=kM
theorem jf6:mapsRowed Tryz.prog=true:=kM
theorem jf7:Tryz.prog.stopsHeard=true:=kM
theorem jf8:Tryz.prog.mayEnter=true:=kM
theorem jfAll:joinedFacts Tryz.prog 3 Tryz.f3 Rows.placeDropsSpec Rows.placeDropsRow=true:=by
 unfold joinedFacts;rw [jf1,jf2,jf3,jf4,jf6,jf7,jf8,zfc]
 kernel_rfl
end
end Go.Proofs.YtjnjpagegkcgfaaGreatDoor.Cop
