/- Part 22: contracts of what the law calls. -/
import Derived.Test.YteipgejmhfpkaaaGreatDoorCopA19
set_option maxRecDepth 1000000
set_option maxHeartbeats 16000000
set_option linter.unusedSimpArgs false
set_option linter.unusedVariables false
open Go.Value renaming int→O,slice→Z
open Go.IntKind renaming i64→Y
open Option renaming none→X,some→V
namespace Go.Proofs.YteipgejmhfpkaaaGreatDoor.Cop
section
open Go.RowKit Go.Shelf Go.Sort
attribute [local go_sem] Oper.semAt_some
theorem zlm (Q:Exit→Act→World→Prop) (w w6 W0:World) (sb ba:Nat) (sk pin wide lap step run level:Int) (ga:Option Addr) (gn gc:Nat) (pa:Option Addr) (pn pc1:Nat) (bk o wn wc:Nat) (ks:List (JS×Value)) (ps:List Pl) (vj6 vr6 p67 p68 p69:Value) (pre:List Jt)
  (nmA:ByteArray) (shA:List (Int×Int)) (dA deA gxA gzA wyA axA azA kinA kA xlA xhA zlA zhA:Int) (vaA:Option Addr) (vnA vcA:Nat)
  (hj6:IsJs w6 (Z (V ⟨bk,o,X⟩) wn wc) ks) (hnc6:wn≤120) (hkp:∀j∈ks,∃w',IsPts w' j.2 j.1.p.shape) (hkm:∀j∈ks,j.1∈jsP ps) (hok:∀p∈ps,placedOk p=true) (hmA:⟨⟨nmA,shA,dA,deA,gxA,gzA,wyA,axA,azA,kinA⟩,kA,(xlA,xhA),zlA,zhA⟩∈jsP ps)
  (hS6:w6.heap[sb]?=V (.cells (svc ⟨sk,pin,wide,lap,step,run,level⟩ (Z ga gn gc) (Z pa pn pc1) (Z (V ⟨bk,o,X⟩) wn wc) vj6 vr6) 113 (0,0))) (hp6:w6.heap[sb+1]?=V (.cells #[.pointer (V ⟨sb,0,X⟩)] 95 (0,0)))
  (hru6:w6.heap[w.heap.size+1]?=V (.cells #[O .u8 sk,O Y pin,O Y wide,O Y lap,O Y step,O Y run,O Y level] 35 (0,0))) (zs4:w.heap.size+1<sb) (zba:w6.heap.size≤ba) (hpre:pre.length≤14400)
  (a0:Act) (ha0:Fr3 (w.heap.size+1) sb ba p67 p68 p69 (V ⟨bk,o,X⟩) wn wc a0)
  (h0:By3 w6 sb ⟨sk,pin,wide,lap,step,run,level⟩ (Z ga gn gc) (Z pa pn pc1) (Z (V ⟨bk,o,X⟩) wn wc) ks pre (⟨⟨nmA,shA,dA,deA,gxA,gzA,wyA,axA,azA,kinA⟩,kA,(xlA,xhA),zlA,zhA⟩,Z vaA vnA vcA) ba wn (a0.tmps.getD 78 undef) W0)
  (hQ:∀a W vj,Fr3 (w.heap.size+1) sb ba p67 p68 p69 (V ⟨bk,o,X⟩) wn wc a→w6.grownBy W (V sb)→W.heap[sb]?=V (.cells (svc ⟨sk,pin,wide,lap,step,run,level⟩ (Z ga gn gc) (Z pa pn pc1) (Z (V ⟨bk,o,X⟩) wn wc) vj (Z X 0 0)) 113 (0,0)) →
   OwnC 75 6 W w6.heap.size vj ((pre++rowP ⟨sk,pin,wide,lap,step,run,level⟩ (ks.map Prod.fst) ⟨⟨nmA,shA,dA,deA,gxA,gzA,wyA,axA,azA,kinA⟩,kA,(xlA,xhA),zlA,zhA⟩).map jtc)→Q (.exit 4) a W) :
  (Code.loop (loopAt Tryz.f28 2)).wpIn Fence.wide 5 Tryz.prog Q a0 W0:=by
 have zs6:=zab hp6;have zw6:w.heap.size+1<w6.heap.size:=by omega
 have Hn6:=hd9 hj6.len.symm;have Hj6:=hd9 hj6;have Hkp:=hd9 (fun j hj=>hkp j hj);have Hkm:=hd9 (fun j hj=>hkm j hj);have Hok:=hd9 hok;have HmA:=hd9 hmA;have HS6:=hd9 hS6;have Hp6:=hd9 hp6;have Hru6:=hd9 hru6;have Hpre:=hd9 hpre;have HQ:=hd9 hQ;clear hj6 hkp hkm hok hmA hS6 hp6 hru6 hpre hQ;unfold loopAt;simp only [Tryz.f28,loopsOf,List.cons_append,List.nil_append,List.append_nil,List.getD_cons_succ,List.getD_cons_zero];refine wpIn_loop_ghost_k (fun gk a W=>By3 w6 sb ⟨sk,pin,wide,lap,step,run,level⟩ (Z ga gn gc) (Z pa pn pc1) (Z (V ⟨bk,o,X⟩) wn wc) ks pre (⟨⟨nmA,shA,dA,deA,gxA,gzA,wyA,axA,azA,kinA⟩,kA,(xlA,xhA),zlA,zhA⟩,Z vaA vnA vcA) ba gk (a.tmps.getD 78 undef) W∧Fr3 (w.heap.size+1) sb ba p67 p68 p69 (V ⟨bk,o,X⟩) wn wc a) wn ⟨h0,ha0⟩ ?round
 case round =>
  clear h0 ha0;intro gk aa wr hinv;obtain⟨tt,dd⟩:=aa;obtain⟨⟨j,vj3,hj,f78,rfl,hgb3,hsv3,hba3,hown3⟩,f1,f3,f8,f12,f67,f68,f69,f76,f77,fd⟩:=hinv;dsimp only at f1 f3 f8 f12 f67 f68 f69 f76 f77 fd f78;subst fd;obtain⟨u,hu,ht⟩:=arrU tt 196 f1;simp only [hu]at f3 f8 f12 f67 f68 f69 f76 f77 f78;clear hu;subst ht;simp only [List.range,List.range.loop,List.map_cons,List.map_nil,f3,f8,f12,f67,f68,f69,f76,f77,f78];clear f1 f3 f8 f12 f67 f68 f69 f76 f77 f78;intro J K hJ hK;obtain⟨qa,qn,qc,rfl⟩:=hown3.form3;rw [Hn6.out]at hj;have hsw3:=hgb3.size;have hp3:=(hgb3.block (sb+1) zs6 (by simp)).trans Hp6.out;have hru3:=(hgb3.block (w.heap.size+1) zw6 (by simp;omega)).trans Hru6.out;have pt3:=qcB hp3 (i:=0) (u:=.pointer (V ⟨sb,0,X⟩)) rfl;have zt2:sb+1<wr.heap.size:=by omega
  have zt3:sb<wr.heap.size:=by omega
  have zt4:w.heap.size+1<wr.heap.size:=by omega
  have zt5:=zab hba3;have zt6:sb+1<wr.heap.size+1:=by omega
  have zt7:sb<wr.heap.size+1:=by omega
  have zt8:w.heap.size+1<wr.heap.size+1:=by omega
  have zt9:ba<wr.heap.size+1:=by omega
  by_cases hlt3:j<wn
  ·obtain⟨⟨⟨⟨nmB,shB,dB,deB,gxB,gzB,wyB,axB,azB,kinB⟩,kB,⟨xlB,xhB⟩,zlB,zhB⟩,vB⟩,hqB⟩:∃q,ks[j]?=V q:=⟨ks[j]'(by rw [Hn6.out];omega),by simp [Hn6.out,hlt3]⟩
   obtain⟨vaB,vnB,vcB,hvB⟩:=(Hkp.out _ (lM hqB)).elim fun _ h=>form3 h
   dsimp only at hvB;subst hvB;have hjw:=Hj6.out.keep (zaM hgb3 HS6.out (by decide));obtain⟨bk',o',e0,hb',hc⟩:=hjw.at' hqB
   cases e0
   unfold jca at hc;dsimp only at hc;have ccB0:=hc 0 (.string nmB) rfl;have ccB1:=hc 1 (Z vaB vnB vcB) rfl;have ccB2:=hc 2 (O Y dB) rfl;have ccB3:=hc 3 (O Y deB) rfl;have ccB4:=hc 4 (O Y gxB) rfl;have ccB5:=hc 5 (O Y gzB) rfl;have ccB6:=hc 6 (O Y wyB) rfl;have ccB7:=hc 7 (O Y axB) rfl;have ccB8:=hc 8 (O Y azB) rfl;have ccB9:=hc 9 (O .u8 kinB) rfl;have ccB10:=hc 10 (O Y kB) rfl;have ccB11:=hc 11 (O Y xlB) rfl;have ccB12:=hc 12 (O Y xhB) rfl;have ccB13:=hc 13 (O Y zlB) rfl;have ccB14:=hc 14 (O Y zhB) rfl;simp only [Nat.add_zero]at ccB0;have hmB:=Hkm.out _ (lM hqB);have bA:=zdP Hok.out HmA.out;have bB:=zdP Hok.out hmB;dsimp only [Bd]at bA bB;have d1 : -9223372036854775808≤xlB-xhA:=by omega
   have d2:xlB-xhA≤9223372036854775807:=by omega
   have HF:=hd9 (fun(W':World) (t78:Value) (ht:t78=O Y ((j+1:Nat):Int)) (hE:Ext wr W') (hf:openB ⟨sk,pin,wide,lap,step,run,level⟩ (ks.map Prod.fst) ⟨⟨nmA,shA,dA,deA,gxA,gzA,wyA,axA,azA,kinA⟩,kA,(xlA,xhA),zlA,zhA⟩ ⟨⟨nmB,shB,dB,deB,gxB,gzB,wyB,axB,azB,kinB⟩,kB,(xlB,xhB),zlB,zhB⟩=false) =>
    (show By3 w6 sb ⟨sk,pin,wide,lap,step,run,level⟩ (Z ga gn gc) (Z pa pn pc1) (Z (V ⟨bk,o,X⟩) wn wc) ks pre (⟨⟨nmA,shA,dA,deA,gxA,gzA,wyA,axA,azA,kinA⟩,kA,(xlA,xhA),zlA,zhA⟩,Z vaA vnA vcA) ba (wn-(j+1)) t78 W'
    from⟨j+1,Z qa qn qc,by have:=Hn6.out;omega,ht,by rw [Hn6.out],zau hgb3 (Below.mono hE hsw3),hE.heapS hsv3,hE.heapS hba3,by
     have e:((ks.take (j+1)).map Prod.fst).filter (openB ⟨sk,pin,wide,lap,step,run,level⟩ (ks.map Prod.fst) ⟨⟨nmA,shA,dA,deA,gxA,gzA,wyA,axA,azA,kinA⟩,kA,(xlA,xhA),zlA,zhA⟩)=((ks.take j).map Prod.fst).filter (openB ⟨sk,pin,wide,lap,step,run,level⟩ (ks.map Prod.fst) ⟨⟨nmA,shA,dA,deA,gxA,gzA,wyA,axA,azA,kinA⟩,kA,(xlA,xhA),zlA,zhA⟩):=by
      rw [zaa _ _ _ hqB,List.map_append,List.filter_append];simp [hf]
     dsimp only;rw [e];exact hown3.ext hE⟩))
   have HT:=hd9 (fun(W':World) (t78 v':Value) (ht:t78=O Y ((j+1:Nat):Int)) (hf:openB ⟨sk,pin,wide,lap,step,run,level⟩ (ks.map Prod.fst) ⟨⟨nmA,shA,dA,deA,gxA,gzA,wyA,axA,azA,kinA⟩,kA,(xlA,xhA),zlA,zhA⟩ ⟨⟨nmB,shB,dB,deB,gxB,gzB,wyB,axB,azB,kinB⟩,kB,(xlB,xhB),zlB,zhB⟩=true)
    (q1:w6.grownBy W' (V sb)) (q2:W'.heap[sb]?=V (.cells (svc ⟨sk,pin,wide,lap,step,run,level⟩ (Z ga gn gc) (Z pa pn pc1) (Z (V ⟨bk,o,X⟩) wn wc) v' (Z X 0 0)) 113 (0,0))) (q3:W'.heap[ba]?=V (.cells (jca (⟨⟨nmA,shA,dA,deA,gxA,gzA,wyA,axA,azA,kinA⟩,kA,(xlA,xhA),zlA,zhA⟩,Z vaA vnA vcA)) 127 (0,0)))
    (h:OwnC 75 6 W' w6.heap.size v' (((pre++(((ks.take j).map Prod.fst).filter (openB ⟨sk,pin,wide,lap,step,run,level⟩ (ks.map Prod.fst) ⟨⟨nmA,shA,dA,deA,gxA,gzA,wyA,axA,azA,kinA⟩,kA,(xlA,xhA),zlA,zhA⟩)).map (jtOf ⟨⟨nmA,shA,dA,deA,gxA,gzA,wyA,axA,azA,kinA⟩,kA,(xlA,xhA),zlA,zhA⟩)).map jtc)++[(#[O Y kA,O Y kB,O Y xhA,O Y xlB,O Y (max zlA zlB),O Y (min zhA zhB)]:Array Value).toList])) =>
    (show By3 w6 sb ⟨sk,pin,wide,lap,step,run,level⟩ (Z ga gn gc) (Z pa pn pc1) (Z (V ⟨bk,o,X⟩) wn wc) ks pre (⟨⟨nmA,shA,dA,deA,gxA,gzA,wyA,axA,azA,kinA⟩,kA,(xlA,xhA),zlA,zhA⟩,Z vaA vnA vcA) ba (wn-(j+1)) t78 W'
    from⟨j+1,v',by have:=Hn6.out;omega,ht,by rw [Hn6.out],q1,q2,q3,by
     have e:((ks.take (j+1)).map Prod.fst).filter (openB ⟨sk,pin,wide,lap,step,run,level⟩ (ks.map Prod.fst) ⟨⟨nmA,shA,dA,deA,gxA,gzA,wyA,axA,azA,kinA⟩,kA,(xlA,xhA),zlA,zhA⟩)=((ks.take j).map Prod.fst).filter (openB ⟨sk,pin,wide,lap,step,run,level⟩ (ks.map Prod.fst) ⟨⟨nmA,shA,dA,deA,gxA,gzA,wyA,axA,azA,kinA⟩,kA,(xlA,xhA),zlA,zhA⟩)++[⟨⟨nmB,shB,dB,deB,gxB,gzB,wyB,axB,azB,kinB⟩,kB,(xlB,xhB),zlB,zhB⟩]:=by
      rw [zaa _ _ _ hqB,List.map_append,List.filter_append];simp [hf]
     dsimp only;rw [e];simp only [List.map_append,←List.append_assoc,List.map_cons,List.map_nil]at h ⊢;exact h⟩))
   have hob:openB ⟨sk,pin,wide,lap,step,run,level⟩ (ks.map Prod.fst) ⟨⟨nmA,shA,dA,deA,gxA,gzA,wyA,axA,azA,kinA⟩,kA,(xlA,xhA),zlA,zhA⟩ ⟨⟨nmB,shB,dB,deB,gxB,gzB,wyB,axB,azB,kinB⟩,kB,(xlB,xhB),zlB,zhB⟩=((kA != kB)&&(decide (xhA≤xlB)&&(decide (xlB-xhA≤wide)&&(decide (max zlA zlB<min zhA zhB)&&!filledB (ks.map Prod.fst) ⟨kA,kB,xhA,xlB,max zlA zlB,min zhA zhB⟩)))):=rfl;have HFi:=hd9 (fun(W:World) (hE:Ext wr W)=>zhS W sb ⟨sk,pin,wide,lap,step,run,level⟩ (Z ga gn gc) (Z pa pn pc1) (Z (V ⟨bk,o,X⟩) wn wc) (Z qa qn qc) (Z X 0 0) ks ⟨kA,kB,xhA,xlB,max zlA zlB,min zhA zhB⟩ (hE.heapS hsv3) (hjw.ext' hE));obtain⟨fb,hfb⟩:=gX (filledB (ks.map Prod.fst) ⟨kA,kB,xhA,xlB,max zlA zlB,min zhA zhB⟩);rw [hfb]at HFi hob;unfold jta at HFi;dsimp only at HFi;have aB10:=qcB hba3 (i:=10) (u:=O Y kA) rfl;have aB12:=qcB hba3 (i:=12) (u:=O Y xhA) rfl;have aB13:=qcB hba3 (i:=13) (u:=O Y zlA) rfl;have aB14:=qcB hba3 (i:=14) (u:=O Y zhA) rfl;have ru2:=qcB hru3 (i:=2) (u:=O Y wide) rfl;have Hob:=hd9 hob;have Hgb3:=hd9 hgb3;have Hsv3:=hd9 hsv3;have Hba3:=hd9 hba3;have Hown3:=hd9 hown3;clear hc hqB hjw hgb3 hsv3 hba3 hown3 hob hfb hmB bA bB hp3 hru3
   by_cases c1:kA=kB
   ·have c1b:(kA != kB)=false:=by simp [c1]
    have C1:=hd9 c1;clear c1
    gi_wp2_with(first|(refine⟨trivial,?_⟩;gi_at_call 52;(refine(callsIn_wide.2 (HFi.out _ ?_)).mono ?_);exact eA;rintro e w7 ⟨rfl,hx7⟩)|(refine⟨trivial,?_⟩))
    refine Handed.intro (wn-(j+1)) (by have:=Hn6.out;omega) (hJ _ _ _ ⟨?rel,rfl,rfl,rfl,rfl,rfl,rfl,rfl,rfl,rfl,rfl⟩)
    case rel=>exact HF.out _ _ (by show (_:Value)=_;go_num) eA (by rw [Hob.out,c1b,Bool.false_and])
   have c1b:(kA != kB)=true:=by simpa using c1
   by_cases c2:xhA≤xlB
   rotate_left 1
   ·have c2b:¬xhA≤xlB:=c2
    gi_wp2_with(first|(refine⟨trivial,?_⟩;gi_at_call 52;(refine(callsIn_wide.2 (HFi.out _ ?_)).mono ?_);exact eA;rintro e w7 ⟨rfl,hx7⟩)|(refine⟨trivial,?_⟩))
    refine Handed.intro (wn-(j+1)) (by have:=Hn6.out;omega) (hJ _ _ _ ⟨?rel,rfl,rfl,rfl,rfl,rfl,rfl,rfl,rfl,rfl,rfl⟩)
    case rel=>exact HF.out _ _ (by show (_:Value)=_;go_num) eA (by rw [Hob.out];simp only [decide_eq_false (Int.not_le.2 c2b),Bool.false_and,Bool.and_false])
   by_cases c3:xlB-xhA≤wide
   rotate_left 1
   ·have c3b:¬xlB-xhA≤wide:=c3
    gi_wp2_with(first|(refine⟨trivial,?_⟩;gi_at_call 52;(refine(callsIn_wide.2 (HFi.out _ ?_)).mono ?_);exact eA;rintro e w7 ⟨rfl,hx7⟩)|(refine⟨trivial,?_⟩))
    refine Handed.intro (wn-(j+1)) (by have:=Hn6.out;omega) (hJ _ _ _ ⟨?rel,rfl,rfl,rfl,rfl,rfl,rfl,rfl,rfl,rfl,rfl⟩)
    case rel=>exact HF.out _ _ (by show (_:Value)=_;go_num) eA (by rw [Hob.out];simp only [decide_eq_false (Int.not_le.2 c3b),Bool.false_and,Bool.and_false])
   by_cases c4:max zlA zlB<min zhA zhB
   rotate_left 1
   ·have c4b:¬max zlA zlB<min zhA zhB:=c4
    gi_wp2_with(first|(refine⟨trivial,?_⟩;gi_at_call 52;(refine(callsIn_wide.2 (HFi.out _ ?_)).mono ?_);exact eA;rintro e w7 ⟨rfl,hx7⟩)|(refine⟨trivial,?_⟩))
    refine Handed.intro (wn-(j+1)) (by have:=Hn6.out;omega) (hJ _ _ _ ⟨?rel,rfl,rfl,rfl,rfl,rfl,rfl,rfl,rfl,rfl,rfl⟩)
    case rel=>exact HF.out _ _ (by show (_:Value)=_;go_num) eA (by rw [Hob.out];simp only [decide_eq_false (Int.not_lt.2 c4b),Bool.false_and,Bool.and_false])
   cases fb with
   | true =>
    gi_wp2_with(first|(refine⟨trivial,?_⟩;gi_at_call 52;(refine(callsIn_wide.2 (HFi.out _ ?_)).mono ?_);exact eA;rintro e w7 ⟨rfl,hx7⟩)|(refine⟨trivial,?_⟩))
    refine Handed.intro (wn-(j+1)) (by have:=Hn6.out;omega) (hJ _ _ _ ⟨?rel,rfl,rfl,rfl,rfl,rfl,rfl,rfl,rfl,rfl,rfl⟩)
    case rel=>exact HF.out _ _ (by show (_:Value)=_;go_num) eA (by rw [Hob.out];simp only [Bool.not_true,Bool.and_false])
   | false =>
    have hopen:openB ⟨sk,pin,wide,lap,step,run,level⟩ (ks.map Prod.fst) ⟨⟨nmA,shA,dA,deA,gxA,gzA,wyA,axA,azA,kinA⟩,kA,(xlA,xhA),zlA,zhA⟩ ⟨⟨nmB,shB,dB,deB,gxB,gzB,wyB,axB,azB,kinB⟩,kB,(xlB,xhB),zlB,zhB⟩=true:=by rw [Hob.out,decide_eq_true c4];simp [c1,c2,c3]
    have Hopen:=hd9 hopen;clear hopen;have Hlt7:=hd9 (fun j (h:(Value.slice qa qn qc).ownBlock=V j)=>Hown3.out.lt j h)
    have Hpl:=hd9 (show (((pre++(((ks.take j).map Prod.fst).filter (openB ⟨sk,pin,wide,lap,step,run,level⟩ (ks.map Prod.fst) ⟨⟨nmA,shA,dA,deA,gxA,gzA,wyA,axA,azA,kinA⟩,kA,(xlA,xhA),zlA,zhA⟩)).map (jtOf ⟨⟨nmA,shA,dA,deA,gxA,gzA,wyA,axA,azA,kinA⟩,kA,(xlA,xhA),zlA,zhA⟩)).map jtc)).length≤1000000 by
     have l2:=List.length_filter_le (openB ⟨sk,pin,wide,lap,step,run,level⟩ (ks.map Prod.fst) ⟨⟨nmA,shA,dA,deA,gxA,gzA,wyA,axA,azA,kinA⟩,kA,(xlA,xhA),zlA,zhA⟩) ((ks.take j).map Prod.fst);rw [lL,List.length_take]at l2;rw [lL,lA,lL];have:=Hpre.out;omega)
    gi_wp2_with(refine⟨trivial,?_⟩;gi_at_call 52;(refine(callsIn_wide.2 (HFi.out _ ?_)).mono ?_);exact eA;rintro e w7 ⟨rfl,hx7⟩)
    have hE7:Ext wr w7:=eA;have hjb:=hx7.heapS (zbT wr (.cells #[.string nmB,Z vaB vnB vcB,O Y dB,O Y deB,O Y gxB,O Y gzB,O Y wyB,O Y axB,O Y azB,O .u8 kinB,O Y kB,O Y xlB,O Y xhB,O Y zlB,O Y zhB] 127) (.cells #[O Y kA,O Y kB,O Y xhA,O Y xlB,O Y (max zlA zlB),O Y (min zhA zhB)] 75));have j0:=qcB hjb (i:=0) (u:=O Y kA) rfl;have j1:=qcB hjb (i:=1) (u:=O Y kB) rfl;have j2:=qcB hjb (i:=2) (u:=O Y xhA) rfl;have j3:=qcB hjb (i:=3) (u:=O Y xlB) rfl;have j4:=qcB hjb (i:=4) (u:=O Y (max zlA zlB)) rfl;have j5:=qcB hjb (i:=5) (u:=O Y (min zhA zhB)) rfl;have zjb:=zab hjb;have hsv7:=hE7.heapS Hsv3.out;have pt7:=hE7.cellS pt3;have sv7:=qcB hsv7 (i:=10) (u:=Z qa qn qc) rfl;have zsv7:=zab hsv7;refine zaQ (fun i=>decide (9<i)) (CellL [(⟨sb+1,0,X⟩,.pointer (V ⟨sb,0,X⟩)),(⟨sb,10,X⟩,Z qa qn qc),(⟨wr.heap.size+1,0,X⟩,O Y kA),(⟨wr.heap.size+1,1,X⟩,O Y kB),(⟨wr.heap.size+1,2,X⟩,O Y xhA),(⟨wr.heap.size+1,3,X⟩,O Y xlB),(⟨wr.heap.size+1,4,X⟩,O Y (max zlA zlB)),(⟨wr.heap.size+1,5,X⟩,O Y (min zhA zhB))]) (by kernel_rfl) ?_ (fun h9H=>?_)
    ·exact cA
    refine sN 0 ?_
    iterate 6
     refine tin ?_
    refine oN ?_;refine ci1 (i:=6) fun K hK=>?_
    go_simp;refine kO hK (fun _=>cE h9H ((eR _).alloc _)) (fun h9H=>?_);clear hK K;have h9H:=h9H rfl;have hA:Ext wr ((w7.alloc (.cells #[O Y kA,O Y kB,O Y xhA,O Y xlB,O Y (max zlA zlB),O Y (min zhA zhB)] 75)).drew):=(hE7.alloc _).drew;refine ci1 (i:=7) fun K hK=>?_
    refine zcj (T:=75) (t:=69) (z:=.agg #[O Y 0,O Y 0,O Y 0,O Y 0,O Y 0,O Y 0]) (k:=6) (bytes:=48) (v:=Z qa qn qc) (base:=w6.heap.size) znr rfl (by decide) (by decide) Tryz.underlying69 rfl _ _ rfl rfl (Hown3.out.ext hA) (ad:=⟨w7.heap.size,0,X⟩) (m:=1) (c:=1) rfl [(#[O Y kA,O Y kB,O Y xhA,O Y xlB,O Y (max zlA zlB),O Y (min zhA zhB)]:Array Value).toList] rfl (by simp) (by exact zaE w7 #[O Y kA,O Y kB,O Y xhA,O Y xlB,O Y (max zlA zlB),O Y (min zhA zhB)] 75) (by simp [Value.oneCell']) (by have:=Hpl.out;omega) (by have:=hA.size;omega) ?_;intro v' w9 hown9 hgrow hlie;obtain⟨a9,n9,c9,rfl⟩:=hown9.form3;refine kO hK (fun _=>CellL.grown h9H hgrow (fun q hq e=>?_)) (fun h9H=>?_)
    ·have h9:=Hlt7.out _ e.symm
     simp at hq
     rcases hq with rfl|rfl|rfl|rfl|rfl|rfl|rfl|rfl<;>(dsimp only at h9;omega)
    clear hK K;have h9H:=h9H rfl;refine sN 8 ?_
    iterate 2
     refine tin ?_
    refine oN ?_;have hK9:=zac hgrow (hA.heapS Hsv3.out) (fun e=>by have:=(Hlt7.out _ e.symm).1;omega);have hB9:=zac hgrow (hA.heapS Hba3.out) (fun e=>(Hown3.out.ne_blk Hba3.out (by decide)) e.symm);have n1:=qcB hK9 (i:=10) (u:=Z qa qn qc) rfl;have nf:=qfB hK9;refine ci1 (i:=10) fun K hK=>?_
    go_simp;refine kO hK (fun h=>nomatch h) (fun h9H=>?_);clear hK K;refine doneHI (by kernel_rfl) ?_ _;unfold NQ
    gi_wp2
    refine Handed.intro (wn-(j+1)) (by have:=Hn6.out;omega) (hJ _ _ _ ⟨?rel,rfl,rfl,rfl,rfl,rfl,rfl,rfl,rfl,rfl,rfl⟩)
    case rel =>
     refine HT.out _ _ (Z a9 n9 c9) (by show (_:Value)=_;go_num) Hopen.out (zaK (zau Hgb3.out ((Below.mono hA hsw3).trans (zad (base:=w6.heap.size) hgrow (nT hsw3 hA.size) (fun k hk=>(Hlt7.out k hk).1)))) 10 _) (zbh hK9 10 _) ?_ (hown9.setOther (fun e=>by have:=(hown9.lt _ e).1;dsimp only at this;omega) _);rw [bS _ _ _ _ (by dsimp only;omega)];exact hB9
  ·obtain rfl:wn=j:=by omega
   have e:ks.take wn=ks:=lT (by rw [Hn6.out];exact nE _);rw [e]at hown3;have Hgb3:=hd9 hgb3;have Hsv3:=hd9 hsv3;have Hown3:=hd9 hown3;clear e hgb3 hsv3 hown3 hba3 hp3 hru3
   gi_wp2
   exact HQ.out _ _ _ ⟨rfl,rfl,rfl,rfl,rfl,rfl,rfl,rfl,rfl,rfl⟩ Hgb3.out Hsv3.out Hown3.out
end
end Go.Proofs.YteipgejmhfpkaaaGreatDoor.Cop
