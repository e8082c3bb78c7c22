import Derived.Test.YtjnjpagegkcgfaaGreatDoorCobA16
set_option maxRecDepth 1000000
set_option maxHeartbeats 16000000
set_option linter.all false
namespace Go.Proofs.YtjnjpagegkcgfaaGreatDoor.Cop
section
open Go Go.ChangeShapes Go.WideShapes Go.ChangeAt Go.RowKit
set_option maxRecDepth 100000
def oQ:(Rows.placeBedsRow.inPlace==Tryz.prog.inPlace 4)=true:=kM
def nQ:(Rows.placeBedsRow.unfollowed==Tryz.prog.unfollowed 4)=true:=kM
def mQ:(Rows.placeBedsRow.recurses==Tryz.prog.recurses 4)=true:=kM
def lQ:(Rows.placeBedsRow.named==Tryz.prog.varsNamed 4)=true:=kM
def kQ:mapsRowed Tryz.prog=true:=kM
def jQ:Tryz.prog.stopsHeard=true:=kM
def iQ:Tryz.prog.mayEnter=true:=kM
def Rr:joinedFacts Tryz.prog 4 Tryz.f4 Rows.placeBedsSpec Rows.placeBedsRow=true:=by
 unfold joinedFacts;rw[oQ,nQ,mQ,lQ,kQ,jQ,iQ,Kv];kernel_rfl
