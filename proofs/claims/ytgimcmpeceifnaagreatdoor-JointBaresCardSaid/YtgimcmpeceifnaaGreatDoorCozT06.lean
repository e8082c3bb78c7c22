import Derived.Test.YtgimcmpeceifnaaGreatDoorColA22
set_option maxRecDepth 1000000
set_option maxHeartbeats 16000000
set_option linter.all false
open Go.Value renaming int->O,slice->Z,pointer->C,agg->G
open Go.IntKind renaming i64->Y,u8->F
open Option renaming none->X,some->I
open Go renaming Value->V,World->N
open Go.Obj renaming cells->M
namespace Go.Proofs.YtgimcmpeceifnaaGreatDoor.Cop
section
open Go Go.ChangeShapes Go.WideShapes Go.ChangeAt Go.RowKit
set_option maxRecDepth 100000
def UW:Tryz.prog.mainIs=I (true, "0b56b37d40a0a025b95ec2492357019a609518001105f8d0db719b6fc7ceb768".toList):=kM
def TW:Tryz.prog.funcNamed "copestone/copestonelaw05.JointBares"=I 5:=kM
def SW:([25,3].all fun u=>!Tryz.prog.wantsStandIn u)=true:=kM
def RW:false=Rows.jointBaresRow.goesBy Tryz.prog:=kM
def QW:false=Tryz.prog.looks []:=kM
end
section
open Go.RowKit Go.Shelf Go.Sort
end
section
open Go.RowKit Go.Shelf Go.Sort
attribute [local go_sem] Oper.semAt_some
end
section
open Go.RowKit Go.Shelf Go.Sort
end
section
open Go.RowKit Go.Shelf Go.Sort
attribute [local go_sem] Oper.semAt_some
