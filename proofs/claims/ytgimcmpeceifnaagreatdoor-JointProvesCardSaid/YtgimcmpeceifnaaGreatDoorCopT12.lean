import Derived.Test.YtgimcmpeceifnaaGreatDoorComA12
import Derived.Test.YtgimcmpeceifnaaGreatDoorRows
import Derived.Test.YtgimcmpeceifnaaGreatDoorCards
import Derived.Test.YtgimcmpeceifnaaGreatDoorTie
import Derived.LaidMore
import Derived.Stop.Joined
import Derived.OpenShut
import Derived.SevenTiedAt
set_option maxRecDepth 1000000
set_option maxHeartbeats 16000000
set_option linter.all false
open Go.Value renaming int->O,slice->Z,pointer->F,agg->G
open Go.IntKind renaming i64->Y,u8->S
open Option renaming none->X,some->V
open Go renaming World->I,Value->M,Addr->U
open Go.Obj renaming cells->N
namespace Go.Proofs.YtgimcmpeceifnaaGreatDoor.Cop
section
open Go.RowKit Go.Shelf Go.Sort
end
section
open Go Go.ChangeShapes Go.WideShapes Go.ChangeAt Go.RowKit
def GW{k n}(h:(Lit.int k n).wf=true):k.min<=n/\n<=k.max:=by unfold Lit.wf at h;simp only[Bool.and_eq_true,decide_eq_true_eq]at h;exact h
end
section
open Go.ChangeShapes Go.WideShapes Go.Deep
section
variable {H:Type} {enc:TypeId×Value->H} {w:World} {spare:Nat->Bool} {held:Bool}
end
end
section
open Go.RowKit Go.Shelf Go.Sort
instance:Inhabited {j // Fh j}:=⟨⟨⟨0,0,0,0,0,0⟩,by unfold Fh Bd;decide⟩⟩
end
section
open Go.RowKit Go.Shelf Go.Sort Go.Lib
end
section
open Go.RowKit Go.Shelf Go.Sort
attribute [local go_sem] Oper.semAt_some
end
section
open Go.RowKit Go.Shelf Go.Sort Go.Lib
end
section
open Go Go.ChangeShapes Go.WideShapes Go.ChangeAt Go.RowKit
set_option maxRecDepth 100000
def pX:(Rows.jointProvesRow.inPlace==Tryz.prog.inPlace 4)=true:=kM
def oX:(Rows.jointProvesRow.unfollowed==Tryz.prog.unfollowed 4)=true:=kM
def nX:(Rows.jointProvesRow.recurses==Tryz.prog.recurses 4)=true:=kM
def mX:(Rows.jointProvesRow.named==Tryz.prog.varsNamed 4)=true:=kM
def lX:mapsRowed Tryz.prog=true:=kM
def jX:Tryz.prog.stopsHeard=true:=kM
def iX:Tryz.prog.mayEnter=true:=kM
def zx:joinedFacts Tryz.prog 4 Tryz.f4 Rows.jointProvesSpec Rows.jointProvesRow=true:=by unfold joinedFacts;rw[pX,oX,nX,mX,lX,jX,iX,iy];kernel_rfl
set_option maxRecDepth 100000
def uX:Tryz.prog.mainIs=V (true, "0b56b37d40a0a025b95ec2492357019a609518001105f8d0db719b6fc7ceb768".toList):=kM
def tX:Tryz.prog.funcNamed "copestone/copestonelaw05.JointProves"=V 4:=kM
def sX:([25,27,4,47,5,3].all fun u=>!Tryz.prog.wantsStandIn u)=true:=kM
def rX:false=Rows.jointProvesRow.goesBy Tryz.prog:=kM
def qX:false=Tryz.prog.looks []:=kM
end
section
open Go.RowKit Go.Shelf Go.Sort
end
section
open Go.RowKit Go.Shelf Go.Sort
attribute [local go_sem] Oper.semAt_some
end
section
open Go.RowKit Go.Shelf Go.Sort
end
section
open Go.RowKit Go.Shelf Go.Sort Go.Lib
end
section
open Go.RowKit Go.Shelf Go.Sort
attribute [local go_sem] Oper.semAt_some