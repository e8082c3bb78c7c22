/- Part 21: contracts of what the law calls. -/
import Derived.Test.YteipgejmhfpkaaaGreatDoorCopA19
set_option maxRecDepth 1000000
set_option maxHeartbeats 16000000
set_option linter.unusedSimpArgs false
set_option linter.unusedVariables false
open Go.Value renaming int→O,slice→Z
open Go.IntKind renaming i64→Y,u8→M
open Option renaming none→X,some→I
open Go.Obj renaming cells→V
namespace Go.Proofs.YteipgejmhfpkaaaGreatDoor.Cop
section
open Go.RowKit Go.Shelf Go.Sort
attribute [local go_sem] Oper.semAt_some
theorem zlk (Q:Exit→Act→World→Prop) (w w5:World) (sb:Nat) (sk pin wide lap step run level:Int) (ga:Option Addr) (gn gc:Nat) (pa:Option Addr) (pn pc1:Nat) (a5:Option Addr) (n5 k5:Nat) (js:List (JS×Value))
  (hj5:IsJs w5 (Z a5 n5 k5) js) (hn120:n5≤120) (hjv:∀j∈js,∃w',IsPts w' j.2 j.1.p.shape) (hK0:w5.heap[w.heap.size+1]?=I (V #[O M sk,O Y pin,O Y wide,O Y lap,O Y step,O Y run,O Y level] 35 (0,0)))
  (hK1:w5.heap[sb]?=I (V (svc ⟨sk,pin,wide,lap,step,run,level⟩ (Z ga gn gc) (Z pa pn pc1) (Z X 0 0) (Z X 0 0) (Z X 0 0)) 113 (0,0))) (hK2:w5.heap[sb+1]?=I (V #[.pointer (I ⟨sb,0,X⟩)] 95 (0,0))) (zs4:w.heap.size+1<sb)
  (a0:Act) (ha0:Fr1 (w.heap.size+1) sb a5 n5 k5 a0) (hi0:a0.tmps.getD 37 undef=O Y (0:Nat))
  (hQ:∀a W vs,Fr1 (w.heap.size+1) sb a5 n5 k5 a→w5.grownBy W (I sb)→W.heap[sb]?=I (V (svc ⟨sk,pin,wide,lap,step,run,level⟩ (Z ga gn gc) (Z pa pn pc1) vs (Z X 0 0) (Z X 0 0)) 113 (0,0))→OwnC 127 15 W w5.heap.size vs ((js.filter fun j=>inB ⟨sk,pin,wide,lap,step,run,level⟩ j.1).map jc)→Q (.exit 0) a W) :
  (Code.loop (loopAt Tryz.f28 0)).wpIn Fence.wide 5 Tryz.prog Q a0 w5:=by
 have zs5:=zab hK2;have hn5:=hj5.len;have Hn:=hd9 hn5.symm;have hnc:n5≤9223372036854775807:=by omega
 have Hn120:=hd9 hn120;have Hj5:=hd9 hj5;have Hjv:=hd9 (fun j hj=>hjv j hj);have HK0:=hd9 hK0;have HK1:=hd9 hK1;have HK2:=hd9 hK2;have HQ:=hd9 hQ;clear hj5 hjv hK0 hK1 hK2 hn5 hQ;unfold loopAt;simp only [Tryz.f28,loopsOf,List.cons_append,List.nil_append,List.append_nil,List.getD_cons_succ,List.getD_cons_zero];refine wpIn_loop_ghost_k (fun gk a W=>By1 w5 w5 sb ⟨sk,pin,wide,lap,step,run,level⟩ (Z ga gn gc) (Z pa pn pc1) (Z a5 n5 k5) js gk (a.tmps.getD 37 undef) W∧Fr1 (w.heap.size+1) sb a5 n5 k5 a) n5 ?h0 ?round
 case h0=>exact⟨⟨0,_,by omega,hi0,by rw [Hn.out];rfl,zbk _ _,HK1.out,by simpa using OwnC.nil _ _ _ _⟩,ha0⟩
 case round =>
  intro gk aa wr hinv;obtain⟨tt,dd⟩:=aa;obtain⟨⟨i,vs,hi,f37,rfl,hgb,hsv,hown⟩,f1,f3,f8,f35,f36,fd⟩:=hinv;dsimp only at f1 f3 f8 f35 f36 fd f37;subst fd;obtain⟨u,hu,ht⟩:=arrU tt 196 f1;simp only [hu]at f3 f8 f35 f36 f37;clear hu;subst ht;simp only [List.range,List.range.loop,List.map_cons,List.map_nil,f3,f8,f35,f36,f37];clear f1 f3 f8 f35 f36 f37;intro J K hJ hK;rw [Hn.out]at hi;have hsw:=hgb.size;have Hgb:=hd9 hgb;have Hsv:=hd9 hsv;have hp0:=(hgb.block (sb+1) zs5 (by simp)).trans HK2.out;have hru:=(hgb.block (w.heap.size+1) (by omega) (by simp;omega)).trans HK0.out;have pt0:=qcB hp0 (i:=0) (u:=.pointer (I ⟨sb,0,X⟩)) rfl
  by_cases hlt:i<n5
  ·obtain⟨⟨⟨⟨nm,sh,d,de,gx,gz,wy,ax,az,kin⟩,k,⟨xl,xh⟩,zl,zh⟩,v⟩,hq⟩:∃q,js[i]?=I q:=⟨js[i]'(by rw [Hn.out];omega),by simp [Hn.out,hlt]⟩
   obtain⟨va,vn,vc,hvv⟩:=(Hjv.out _ (lM hq)).elim fun _ h=>form3 h
   dsimp only at hvv;subst hvv;have hjw:=Hj5.out.keep (zaM hgb HK1.out (by decide));obtain⟨bk,o,rfl,hb,hc⟩:=hjw.at' hq;unfold jca at hc;dsimp only at hc;have cc0:=hc 0 (.string nm) rfl;have cc1:=hc 1 (Z va vn vc) rfl;have cc2:=hc 2 (O Y d) rfl;have cc3:=hc 3 (O Y de) rfl;have cc4:=hc 4 (O Y gx) rfl;have cc5:=hc 5 (O Y gz) rfl;have cc6:=hc 6 (O Y wy) rfl;have cc7:=hc 7 (O Y ax) rfl;have cc8:=hc 8 (O Y az) rfl;have cc9:=hc 9 (O M kin) rfl;have cc10:=hc 10 (O Y k) rfl;have cc11:=hc 11 (O Y xl) rfl;have cc12:=hc 12 (O Y xh) rfl;have cc13:=hc 13 (O Y zl) rfl;have cc14:=hc 14 (O Y zh) rfl;simp only [Nat.add_zero]at cc0;have ru0:=qcB hru (i:=0) (u:=O M sk) rfl;have zr1:w.heap.size+1<wr.heap.size:=by omega
   have zr2:sb+1<wr.heap.size:=by omega
   have zr3:sb<wr.heap.size:=by omega
   obtain⟨ib,hib⟩:=gX (inB ⟨sk,pin,wide,lap,step,run,level⟩ ⟨⟨nm,sh,d,de,gx,gz,wy,ax,az,kin⟩,k,(xl,xh),zl,zh⟩);have hfs:=zgg (fun j:JS×Value=>inB ⟨sk,pin,wide,lap,step,run,level⟩ j.1) hq;simp only [hib]at hfs;have Hfs:=hd9 hfs;have Hown:=hd9 hown;have hib2:((kin==sk) || (kin==3))=ib:=hib;have p6:i<n5:=hlt;clear hq hc hib hfs hown hgb hsv hjw hp0 hru;have HJ:=hd9 hJ
   cases ib with
   | false =>
    rw [Bool.or_eq_false_iff]at hib2;obtain⟨q1,q2⟩:=hib2
    gi_wp2
    refine Handed.intro (n5-(i+1)) (by have:=Hn.out;omega) (hJ _ _ _ ⟨?rel,rfl,rfl,rfl,rfl,rfl,rfl⟩)
    case rel =>
     have hE:=(eR wr).alloc (V #[.string nm,Z va vn vc,O Y d,O Y de,O Y gx,O Y gz,O Y wy,O Y ax,O Y az,O M kin,O Y k,O Y xl,O Y xh,O Y zl,O Y zh] 127);refine⟨i+1,_,by have:=Hn.out;omega,by show (_:Value)=_;go_num,by rw [Hn.out],zau Hgb.out (Below.mono hE hsw),hE.heapS Hsv.out,?_⟩;rw [Hfs.out]
     simpa using Hown.out.ext hE
   | true =>
    obtain⟨wa,wn,wc,rfl⟩:=Hown.out.form3;have sv9:=qcB Hsv.out (i:=9) (u:=Z wa wn wc) rfl;have Hlt9:=hd9 (fun j (h:(Value.slice wa wn wc).ownBlock=I j)=>Hown.out.lt j h)
    cases q1:(kin==sk)with
    | true =>
     clear hib2
     gi_wp2
     refine zaQ (fun i=>decide (9<i)) (CellL [(⟨sb+1,0,X⟩,.pointer (I ⟨sb,0,X⟩)),(⟨sb,9,X⟩,Z wa wn wc),(⟨wr.heap.size,0,X⟩,.string nm),(⟨wr.heap.size,1,X⟩,Z va vn vc),(⟨wr.heap.size,2,X⟩,O Y d),(⟨wr.heap.size,3,X⟩,O Y de),(⟨wr.heap.size,4,X⟩,O Y gx),(⟨wr.heap.size,5,X⟩,O Y gz),(⟨wr.heap.size,6,X⟩,O Y wy),(⟨wr.heap.size,7,X⟩,O Y ax),(⟨wr.heap.size,8,X⟩,O Y az),(⟨wr.heap.size,9,X⟩,O M kin),(⟨wr.heap.size,10,X⟩,O Y k),(⟨wr.heap.size,11,X⟩,O Y xl),(⟨wr.heap.size,12,X⟩,O Y xh),(⟨wr.heap.size,13,X⟩,O Y zl),(⟨wr.heap.size,14,X⟩,O Y zh)]) (by kernel_rfl) ?_ (fun h9H=>?_)
     ·exact cA
     refine sN 0 ?_
     iterate 6
      refine tin ?_
     refine oN ?_;refine ci1 (i:=6) fun K hK=>?_
     go_simp;refine kO hK (fun _=>cE h9H ((eR _).alloc _)) (fun h9H=>?_);clear hK K;have h9H:=h9H rfl;have hA:Ext wr (((wr.alloc (V #[.string nm,Z va vn vc,O Y d,O Y de,O Y gx,O Y gz,O Y wy,O Y ax,O Y az,O M kin,O Y k,O Y xl,O Y xh,O Y zl,O Y zh] 127)).alloc (V #[.string nm,Z va vn vc,O Y d,O Y de,O Y gx,O Y gz,O Y wy,O Y ax,O Y az,O M kin,O Y k,O Y xl,O Y xh,O Y zl,O Y zh] 127)).drew):=(((eR wr).alloc _).alloc _).drew;refine ci1 (i:=7) fun K hK=>?_
     refine zcj (T:=127) (t:=111) (z:=.agg js0) (k:=15) (bytes:=144) (v:=Z wa wn wc) (base:=w5.heap.size) zdK rfl (by decide) (by decide) Tryz.underlying111 rfl _ _ rfl rfl (cs:=((js.take i).filter fun j=>inB ⟨sk,pin,wide,lap,step,run,level⟩ j.1).map jc) (Hown.out.ext hA) (ad:=⟨wr.heap.size+1,0,X⟩) (m:=1) (c:=1) rfl [(#[.string nm,Z va vn vc,O Y d,O Y de,O Y gx,O Y gz,O Y wy,O Y ax,O Y az,O M kin,O Y k,O Y xl,O Y xh,O Y zl,O Y zh]:Array Value).toList] rfl (by simp) (fun j u hj=>by have:=zaE (wr.alloc (V #[.string nm,Z va vn vc,O Y d,O Y de,O Y gx,O Y gz,O Y wy,O Y ax,O Y az,O M kin,O Y k,O Y xl,O Y xh,O Y zl,O Y zh] 127)) #[.string nm,Z va vn vc,O Y d,O Y de,O Y gx,O Y gz,O Y wy,O Y ax,O Y az,O M kin,O Y k,O Y xl,O Y xh,O Y zl,O Y zh] 127 j u hj;rw [wZ]at this;exact this) (by simp [Value.oneCell']) (by have h7:=List.length_filter_le (fun j:JS×Value=>inB ⟨sk,pin,wide,lap,step,run,level⟩ j.1) (js.take i);rw [List.length_take]at h7;rw [lL];omega) (by have:=hA.size;omega) ?_;intro v' w9 hown9 hgrow hlie;obtain⟨a9,n9,c9,rfl⟩:=hown9.form3;refine kO hK (fun _=>CellL.grown h9H hgrow (fun q hq e=>?_)) (fun h9H=>?_)
     ·have h9:=Hlt9.out _ e.symm
      simp at hq
      rcases hq with rfl|rfl|rfl|rfl|rfl|rfl|rfl|rfl|rfl|rfl|rfl|rfl|rfl|rfl|rfl|rfl|rfl<;>(dsimp only at h9;omega)
     clear hK K;have h9H:=h9H rfl;refine sN 8 ?_
     iterate 2
      refine tin ?_
     refine oN ?_;have hK9:=zac hgrow (hA.heapS Hsv.out) (fun e=>by have:=(Hlt9.out _ e.symm).1;omega);have n1:=qcB hK9 (i:=9) (u:=Z wa wn wc) rfl;have nf:=qfB hK9;refine ci1 (i:=10) fun K hK=>?_
     go_simp;refine kO hK (fun h=>nomatch h) (fun h9H=>?_);clear hK K;refine doneHI (by kernel_rfl) ?_ _;unfold NQ
     gi_wp2
     refine Handed.intro (n5-(i+1)) (by have:=Hn.out;omega) (hJ _ _ _ ⟨?rel,rfl,rfl,rfl,rfl,rfl,rfl⟩)
     case rel =>
      refine⟨i+1,Z a9 n9 c9,by have:=Hn.out;omega,by show (_:Value)=_;go_num,by rw [Hn.out],zaK (zau Hgb.out ((Below.mono hA hsw).trans (zad (base:=w5.heap.size) hgrow (nT hsw hA.size) (fun k hk=>(Hlt9.out k hk).1)))) 9 _,zbh hK9 9 _,?_⟩;rw [Hfs.out,if_pos trivial,List.map_append];exact hown9.setOther (fun e=>by have:=(hown9.lt _ e).1;dsimp only at this;omega) _
    | false =>
     rw [q1,Bool.false_or]at hib2
     gi_wp2
     refine zaQ (fun i=>decide (9<i)) (CellL [(⟨sb+1,0,X⟩,.pointer (I ⟨sb,0,X⟩)),(⟨sb,9,X⟩,Z wa wn wc),(⟨wr.heap.size,0,X⟩,.string nm),(⟨wr.heap.size,1,X⟩,Z va vn vc),(⟨wr.heap.size,2,X⟩,O Y d),(⟨wr.heap.size,3,X⟩,O Y de),(⟨wr.heap.size,4,X⟩,O Y gx),(⟨wr.heap.size,5,X⟩,O Y gz),(⟨wr.heap.size,6,X⟩,O Y wy),(⟨wr.heap.size,7,X⟩,O Y ax),(⟨wr.heap.size,8,X⟩,O Y az),(⟨wr.heap.size,9,X⟩,O M kin),(⟨wr.heap.size,10,X⟩,O Y k),(⟨wr.heap.size,11,X⟩,O Y xl),(⟨wr.heap.size,12,X⟩,O Y xh),(⟨wr.heap.size,13,X⟩,O Y zl),(⟨wr.heap.size,14,X⟩,O Y zh)]) (by kernel_rfl) ?_ (fun h9H=>?_)
     ·exact cA
     refine sN 0 ?_
     iterate 6
      refine tin ?_
     refine oN ?_;refine ci1 (i:=6) fun K hK=>?_
     go_simp;refine kO hK (fun _=>cE h9H ((eR _).alloc _)) (fun h9H=>?_);clear hK K;have h9H:=h9H rfl;have hA:Ext wr (((wr.alloc (V #[.string nm,Z va vn vc,O Y d,O Y de,O Y gx,O Y gz,O Y wy,O Y ax,O Y az,O M kin,O Y k,O Y xl,O Y xh,O Y zl,O Y zh] 127)).alloc (V #[.string nm,Z va vn vc,O Y d,O Y de,O Y gx,O Y gz,O Y wy,O Y ax,O Y az,O M kin,O Y k,O Y xl,O Y xh,O Y zl,O Y zh] 127)).drew):=(((eR wr).alloc _).alloc _).drew;refine ci1 (i:=7) fun K hK=>?_
     refine zcj (T:=127) (t:=111) (z:=.agg js0) (k:=15) (bytes:=144) (v:=Z wa wn wc) (base:=w5.heap.size) zdK rfl (by decide) (by decide) Tryz.underlying111 rfl _ _ rfl rfl (cs:=((js.take i).filter fun j=>inB ⟨sk,pin,wide,lap,step,run,level⟩ j.1).map jc) (Hown.out.ext hA) (ad:=⟨wr.heap.size+1,0,X⟩) (m:=1) (c:=1) rfl [(#[.string nm,Z va vn vc,O Y d,O Y de,O Y gx,O Y gz,O Y wy,O Y ax,O Y az,O M kin,O Y k,O Y xl,O Y xh,O Y zl,O Y zh]:Array Value).toList] rfl (by simp) (fun j u hj=>by have:=zaE (wr.alloc (V #[.string nm,Z va vn vc,O Y d,O Y de,O Y gx,O Y gz,O Y wy,O Y ax,O Y az,O M kin,O Y k,O Y xl,O Y xh,O Y zl,O Y zh] 127)) #[.string nm,Z va vn vc,O Y d,O Y de,O Y gx,O Y gz,O Y wy,O Y ax,O Y az,O M kin,O Y k,O Y xl,O Y xh,O Y zl,O Y zh] 127 j u hj;rw [wZ]at this;exact this) (by simp [Value.oneCell']) (by have h7:=List.length_filter_le (fun j:JS×Value=>inB ⟨sk,pin,wide,lap,step,run,level⟩ j.1) (js.take i);rw [List.length_take]at h7;rw [lL];omega) (by have:=hA.size;omega) ?_;intro v' w9 hown9 hgrow hlie;obtain⟨a9,n9,c9,rfl⟩:=hown9.form3;refine kO hK (fun _=>CellL.grown h9H hgrow (fun q hq e=>?_)) (fun h9H=>?_)
     ·have h9:=Hlt9.out _ e.symm
      simp at hq
      rcases hq with rfl|rfl|rfl|rfl|rfl|rfl|rfl|rfl|rfl|rfl|rfl|rfl|rfl|rfl|rfl|rfl|rfl<;>(dsimp only at h9;omega)
     clear hK K;have h9H:=h9H rfl;refine sN 8 ?_
     iterate 2
      refine tin ?_
     refine oN ?_;have hK9:=zac hgrow (hA.heapS Hsv.out) (fun e=>by have:=(Hlt9.out _ e.symm).1;omega);have n1:=qcB hK9 (i:=9) (u:=Z wa wn wc) rfl;have nf:=qfB hK9;refine ci1 (i:=10) fun K hK=>?_
     go_simp;refine kO hK (fun h=>nomatch h) (fun h9H=>?_);clear hK K;refine doneHI (by kernel_rfl) ?_ _;unfold NQ
     gi_wp2
     refine Handed.intro (n5-(i+1)) (by have:=Hn.out;omega) (hJ _ _ _ ⟨?rel,rfl,rfl,rfl,rfl,rfl,rfl⟩)
     case rel =>
      refine⟨i+1,Z a9 n9 c9,by have:=Hn.out;omega,by show (_:Value)=_;go_num,by rw [Hn.out],zaK (zau Hgb.out ((Below.mono hA hsw).trans (zad (base:=w5.heap.size) hgrow (nT hsw hA.size) (fun k hk=>(Hlt9.out k hk).1)))) 9 _,zbh hK9 9 _,?_⟩;rw [Hfs.out,if_pos trivial,List.map_append];exact hown9.setOther (fun e=>by have:=(hown9.lt _ e).1;dsimp only at this;omega) _
  ·obtain rfl:i=n5:=by omega
   have e:js.take i=js:=lT (by rw [Hn.out];exact nE _);rw [e]at hown;have Hown:=hd9 hown;clear hown hgb hsv hp0 hru e
   gi_wp2
   exact HQ.out _ _ _ ⟨rfl,rfl,rfl,rfl,rfl,rfl⟩ Hgb.out Hsv.out Hown.out
end
end Go.Proofs.YteipgejmhfpkaaaGreatDoor.Cop
