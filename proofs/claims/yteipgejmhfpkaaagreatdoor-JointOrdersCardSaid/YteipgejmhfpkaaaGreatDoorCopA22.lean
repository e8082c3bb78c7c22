/- Part 23 of 44: contracts of what the law calls. -/
import Derived.Test.YteipgejmhfpkaaaGreatDoorCopA20
set_option maxRecDepth 1000000
set_option maxHeartbeats 16000000
set_option linter.unusedSimpArgs false
set_option linter.unusedVariables false
namespace Go.Proofs.YteipgejmhfpkaaaGreatDoor.Cop
open Go.RowKit Go.Shelf Go.Sort Go.Lib
theorem Ext.belowB {w W:World} {base:Nat} (h:Ext w W) (hb:base≤w.heap.size):Below base w W:=Below.mono h hb
end Go.Proofs.YteipgejmhfpkaaaGreatDoor.Cop
namespace Go.Proofs.YteipgejmhfpkaaaGreatDoor.Cop
open Go.RowKit Go.Shelf Go.Sort


theorem arP_bd {k:Int} {f:Int×Int→Int} {ps:List (Int×Int)} (hk:0≤k) (h:∀p∈ps,Bd k (f p)):Bd k (arP f ps).1∧Bd k (arP f ps).2:=by
 cases ps with
 | nil=>unfold arP Bd;simp;omega
 | cons p ps =>
  have:∀(qs:List (Int×Int)) (o:Int×Int),(Bd k o.1∧Bd k o.2)→(∀q∈qs,Bd k (f q))→Bd k (qs.foldl (fun o q=>(min o.1 (f q),max o.2 (f q))) o).1∧Bd k (qs.foldl (fun o q=>(min o.1 (f q),max o.2 (f q))) o).2:=by
   intro qs
   induction qs with
   | nil=>intro o ho _;exact ho
   | cons q qs ih =>
    intro o ho hq;refine ih _ ?_ (fun z hz=>hq z (List.mem_cons_of_mem _ hz));have:=hq q (by simp);unfold Bd at *;dsimp only;omega
  exact this ps (f p,f p) ⟨h p (by simp),h p (by simp)⟩ (fun q hq=>h q (List.mem_cons_of_mem _ hq))
end Go.Proofs.YteipgejmhfpkaaaGreatDoor.Cop
