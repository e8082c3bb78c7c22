/-
  JointProves: for every input the law returns true; each argument reads behind the call as it read before. Condition: the variable stone.ways holds what the program's text lays (the card ties it).
-/
import Derived.Test.YtgimcmpeceifnaaGreatDoorCopT23
set_option maxRecDepth 1000000
set_option maxHeartbeats 16000000
set_option linter.all false
namespace Go.Proofs.YtgimcmpeceifnaaGreatDoor.Cop
section
open Go Go.ChangeShapes Go.WideShapes Go.ChangeAt Go.RowKit
theorem jointProves_holds:Rows.JointProvesCardSaid:=
 Claim7.holds_tied_plain_at .later [] [.funcs] true (true, "0b56b37d40a0a025b95ec2492357019a609518001105f8d0db719b6fc7ceb768") false
  MW (fun _ h=>by cases h) kM (fun _ h=>by cases h) jointProves_row_tie rfl ⟨rfl,rfl⟩ uX rfl
  (fun f c d a=>by
   obtain rfl:f=4:=Option.some.inj (tX.symm.trans d) |>.symm
   obtain rfl:c=Tryz.f4:=(Option.some.inj (Tryz.func4.symm.trans a)).symm;exact⟨qX,fun j t b=>by
    rw[Tryz.params4]at b;have e:t∈[25,27,4,47,5,3]:=by
     have:=Array.mem_of_getElem? b;simp at this ⊢;omega
    exact(show Tryz.prog.wantsStandIn t=false by simpa using List.all_eq_true.1 sX t e)⟩)
  rX
