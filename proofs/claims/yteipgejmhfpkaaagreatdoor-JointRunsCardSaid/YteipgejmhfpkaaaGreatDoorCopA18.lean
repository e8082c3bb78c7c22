/- Part 19 of 39: contracts of what the law calls. -/
import Derived.Test.YteipgejmhfpkaaaGreatDoorCopA16
set_option maxRecDepth 1000000
set_option maxHeartbeats 16000000
set_option linter.unusedSimpArgs false
set_option linter.unusedVariables false
namespace Go.Proofs.YteipgejmhfpkaaaGreatDoor.Cop
section
open Go.RowKit Go.Shelf Go.Sort Go.Lib
theorem Ext.belowB {w W:World} {base:Nat} (h:Ext w W) (hb:base≤w.heap.size):Below base w W:=Below.mono h hb
end
section
open Go.RowKit Go.Shelf Go.Sort


theorem zl9 {k:Int} {f:Int×Int→Int} {ps:List (Int×Int)} (hk:0≤k) (h:∀p∈ps,Bd k (f p)):Bd k (arP f ps).1∧Bd k (arP f ps).2:=by
 cases ps with
 | nil=>unfold arP Bd;simp;omega
 | cons p ps =>
  have:∀(qs:List (Int×Int)) (o:Int×Int),(Bd k o.1∧Bd k o.2)→(∀q∈qs,Bd k (f q))→Bd k (qs.foldl (fun o q=>(min o.1 (f q),max o.2 (f q))) o).1∧Bd k (qs.foldl (fun o q=>(min o.1 (f q),max o.2 (f q))) o).2:=by
   intro qs
   induction qs with
   | nil=>intro o ho _;exact ho
   | cons q qs ih =>
    intro o ho hq;refine ih _ ?_ (fun z hz=>hq z (mC _ hz));have:=hq q (by simp);unfold Bd at *;dsimp only;omega
  exact this ps (f p,f p) ⟨h p (by simp),h p (by simp)⟩ (fun q hq=>h q (mC _ hq))

theorem zjL {ps:List Pl} {j:JS} (h:j∈jsP ps):∃p∈ps,∃i,j=jsOf i p:=by
 obtain⟨i,hi⟩:=List.mem_iff_getElem?.1 h;unfold jsP at hi;rw [List.getElem?_mapIdx]at hi
 cases hp:ps[i]? with
 | none=>rw [hp]at hi;cases hi
 | some p=>rw [hp]at hi;cases hi;exact⟨p,lM hp,i,rfl⟩
theorem zfz {ps:List Pl} (hok:∀p∈ps,placedOk p=true) {j:JS} (h:j∈jsP ps):(Bd 104000 j.x.1∧Bd 104000 j.x.2)∧Bd 104000 j.z.1∧Bd 104000 j.z.2:=by
 obtain⟨p,hp,i,rfl⟩:=zjL h;have hb:=(zaU (hok p hp)).1;exact⟨zl9 (by omega) (fun q hq=>(hb q hq).1),zl9 (by omega) (fun q hq=>(hb q hq).2)⟩
theorem zg8 {g:List (Int×Int)}:∀{ps done:List Pl},laid1 g done ps=0→∀p∈ps,placedOk p=true
 | [],_,_,p,hp=>by cases hp
 | q::r,done,h,p,hp=>by
  unfold laid1 at h
  by_cases h0:addE g done q=0
  ·rw [if_pos h0]at h
   rcases List.mem_cons.1 hp with rfl|hp
   ·cases hk:placedOk p with
    | true=>rfl
    | false=>unfold addE at h0;rw [hk]at h0;simp at h0
   ·exact zg8 h p hp
  ·rw [if_neg h0]at h;exact absurd h h0
theorem zau {g:List (Int×Int)} {ps:List Pl} (h:laidP g ps=0):(∀p∈ps,placedOk p=true)∧ps.length≤120∧groundB g=true:=by
 unfold laidP at h
 cases hg:groundB g with
 | false=>rw [hg]at h;simp at h
 | true =>
  rw [hg,if_pos rfl]at h
  by_cases hl:120<ps.length
  ·rw [if_pos hl]at h;exact absurd h (by decide)
  ·rw [if_neg hl]at h
   by_cases h1:laid1 g [] ps=0
   ·exact⟨zg8 h1,by omega,rfl⟩
   ·rw [if_neg h1]at h;exact absurd h h1
end
end Go.Proofs.YteipgejmhfpkaaaGreatDoor.Cop
