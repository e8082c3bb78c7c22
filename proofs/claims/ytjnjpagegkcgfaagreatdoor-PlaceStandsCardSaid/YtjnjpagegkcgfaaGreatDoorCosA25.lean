/- Part 26. -/
import Derived.Test.YtjnjpagegkcgfaaGreatDoorCosA24
set_option maxRecDepth 1000000
set_option maxHeartbeats 16000000
set_option linter.unusedSimpArgs false
set_option linter.unusedVariables false
namespace Go.Proofs.YtjnjpagegkcgfaaGreatDoor.Cop
section
open Go Go.ChangeShapes Go.WideShapes Go.ChangeAt Go.RowKit
set_option maxRecDepth 100000
theorem jf1:(Rows.placeStandsRow.inPlace==Tryz.prog.inPlace 5)=true:=kM
theorem jf2:(Rows.placeStandsRow.unfollowed==Tryz.prog.unfollowed 5)=true:=kM
theorem jf3:(Rows.placeStandsRow.recurses==Tryz.prog.recurses 5)=true:=kM
theorem jf4:(Rows.placeStandsRow.named==Tryz.prog.varsNamed 5)=true:=kM
theorem jf6:mapsRowed Tryz.prog=true:=kM
theorem jf7:Tryz.prog.stopsHeard=true:=kM
theorem jf8:Tryz.prog.mayEnter=true:=kM
theorem jfAll:joinedFacts Tryz.prog 5 Tryz.f5 Rows.placeStandsSpec Rows.placeStandsRow=true:=by
 unfold joinedFacts;rw[jf1,jf2,jf3,jf4,jf6,jf7,jf8,zeS]
 kernel_rfl
end
end Go.Proofs.YtjnjpagegkcgfaaGreatDoor.Cop
