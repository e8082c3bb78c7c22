import Derived.Test.YtgimcmpeceifnaaGreatDoorColA22
set_option maxRecDepth 1000000
set_option maxHeartbeats 16000000
set_option linter.all false
namespace Go.Proofs.YtgimcmpeceifnaaGreatDoor.Cop
section
open Go Go.ChangeShapes Go.WideShapes Go.ChangeAt Go.RowKit
set_option maxRecDepth 100000
def PW:(Rows.jointBaresRow.inPlace==Tryz.prog.inPlace 5)=true:=kM
def OW:(Rows.jointBaresRow.unfollowed==Tryz.prog.unfollowed 5)=true:=kM
def NW:(Rows.jointBaresRow.recurses==Tryz.prog.recurses 5)=true:=kM
def MW:(Rows.jointBaresRow.named==Tryz.prog.varsNamed 5)=true:=kM
def LW:mapsRowed Tryz.prog=true:=kM
def KW:Tryz.prog.stopsHeard=true:=kM
def JW:Tryz.prog.mayEnter=true:=kM
def BW:joinedFacts Tryz.prog 5 Tryz.f5 Rows.jointBaresSpec Rows.jointBaresRow=true:=by
 unfold joinedFacts;rw[PW,OW,NW,MW,LW,KW,JW,jy];kernel_rfl
