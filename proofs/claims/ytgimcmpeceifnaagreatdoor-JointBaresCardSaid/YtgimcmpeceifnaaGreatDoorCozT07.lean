import Derived.Test.YtgimcmpeceifnaaGreatDoorCozT04
set_option maxRecDepth 1000000
set_option maxHeartbeats 16000000
set_option linter.all false
open Go.Value renaming int->O,slice->X,pointer->G
open Go.IntKind renaming i64->Y,u8->P
open Option renaming none->Z,some->J
open Go renaming World->V,Value->I
open Go.Obj renaming cells->F
namespace Go.Proofs.YtgimcmpeceifnaaGreatDoor.Cop
section
open Go.RowKit Go.Shelf Go.Sort
attribute [local go_sem] Oper.semAt_some
end
section
open Go.RowKit Go.Shelf Go.Maps Go.Sort Go.Lib
attribute [local go_sem] Oper.semAt_some
end
section
open Go.RowKit Go.Shelf Go.Sort Go.Lib
attribute [local go_sem] Oper.semAt_some
def KX(w:V)(a b c d:Int):Calls Tryz.prog 63 #[O Y a,O Y b,O Y c,O Y d] w fun e k=>e=.returned (.bool (decide (a<d)&&(decide (c<b)&&(decide (a<b)&&decide (c<d)))))/\Ba w k:=by
 by_cases f:a<d<;>by_cases g:c<b<;>by_cases i:a<b<;>by_cases j:c<d
 all_goals
  go_in;go_wp2;go_ret;exact⟨by simp[f,g,i,j],eA⟩
def WX(w:V)(b t lo hi:Int)(ps:List Pl)(a c:I)(W:V):Prop:=
 ∃most p:Int,a=O Y most/\c=O Y p/\Si lo hi (xb b t ps) p most/\Bd 10000000 p/\most<=100000000/\Ba w W
def XX(w:V)(b t hi p:Int)(ps:List Pl)(t9 a c:I)(W:V):Prop:=
 ∃i:Nat,c=O Y i/\i<=ps.length/\t9=O Y (rj p hi (xb b t (ps.take i))).1/\a=O Y (rj p hi (xb b t (ps.take i))).2/\Ba w W
end
section
open Go.RowKit Go.Shelf Go.Sort
attribute [local go_sem] Oper.semAt_some
end
section
open Go.RowKit Go.Shelf Go.Maps Go.Sort Go.Lib
attribute [local go_sem] Oper.semAt_some
end
section
open Go.RowKit
end
section
open Go.RowKit Go.Shelf Go.Maps Go.Sort Go.Lib
attribute [local go_sem] Oper.semAt_some
end
section
open Go.RowKit Go.Shelf Go.Maps Go.Sort Go.Lib
end
section
open Go.RowKit Go.Shelf Go.Maps Go.Sort Go.Lib
attribute [local go_sem] Oper.semAt_some
end
section
open Go.RowKit Go.Shelf Go.Sort Go.Lib
attribute [local go_sem] Oper.semAt_some
end
section
open Go.RowKit Go.Shelf Go.Sort Go.Lib
end
section
open Go.RowKit Go.Shelf Go.Maps Go.Sort Go.Lib
attribute [local go_sem] Oper.semAt_some
end
section
open Go.RowKit Go.Shelf Go.Sort Go.Lib
