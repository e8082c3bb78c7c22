/- Part 24: contracts of what the law calls. -/
import Derived.Test.YtodpfeaihohpjaaGreatDoorCopA22
import Derived.Test.YtodpfeaihohpjaaGreatDoorCopA05
import Derived.Test.YtodpfeaihohpjaaGreatDoorCopA14
import Derived.Test.YtodpfeaihohpjaaGreatDoorCopA21
set_option maxRecDepth 1000000
set_option maxHeartbeats 16000000
set_option linter.unusedSimpArgs false
set_option linter.unusedVariables false
open Go.Value renaming slice→O,bool→Y,agg→Z
namespace Go.Proofs.YtodpfeaihohpjaaGreatDoor.Cop
section
open Go.RowKit Go.Shelf
attribute [local go_sem] Oper.semAt_some
theorem zit (w:World) (v:Value) (q:Rat) (h:IsR w v q) (hl:Rb limT q) (h0:0≤q.num) :
  Calls Tryz.prog 55 #[v] w (RetZ w q.floor):=by
 obtain⟨a,m,c,s,a2,m2,c2,rfl⟩:=h.form;rw [Rat.floor_def];have HB:=hd9 (fun(W:World) (hW:Ext w W)=>zaJ W _ q (h.ext hW) (hl.mono dM));have HQ:=hd9 (fun(W:World) (hW:Ext w W) (v:Value) (hv:IsZ W v (q.den:Int))=>zfD W (Z #[O a m c,Y s]) v q.num (q.den:Int) (h.top.ext hW) hv (hl.1.mono dM) (hl.2.mono dM) (by have:=q.den_pos;omega) (.inl h0));obtain⟨R,hR⟩:=gX (RetZ w (q.num / (q.den:Int)));rw [hR];have HR:=hd9 hR;clear h hl h0 hR;go_enter Tryz.func55,Tryz.ntmps55;go_wp2
 have hn:∀b,w.heap.size<b→∀q∈[((⟨w.heap.size,0,none⟩:Addr),Value.slice a m c),(⟨w.heap.size,1,none⟩,Y s),(⟨w.heap.size,2,none⟩,O a2 m2 c2)],b≠q.1.block:=by
  intro b hb q hq;simp at hq
  rcases hq with rfl|rfl|rfl<;>(dsimp only;omega)
 refine wp_region_held_drew (S:=CellL [(⟨w.heap.size,0,none⟩,O a m c),(⟨w.heap.size,1,none⟩,Y s),(⟨w.heap.size,2,none⟩,O a2 m2 c2)]) kM cA (fun d=>?_);refine sN 0 ?_
 iterate 3
  refine tkn ?_
 refine oN ?_;refine call3 (i:=3) (j:=9) (k:=10) (fun K f=>?_) (fun K f=>?_) (fun K f=>?_)
 ·skip
  go_simp
  (with_reducible refine cM (HB.out _ eA) ?_)
  rintro e u ⟨r1,rfl,ai,aj⟩;obtain⟨a1,m1,c1,s1,rfl⟩:=ai.form;obtain⟨ab,ac⟩:=aj.cells;have z1:=aj.size
  (try simp only [wZ,qdZ]at z1)
  (try(have x:w.heap.size<u.heap.size:=oM))
  (try(have y:w.heap.size+1<u.heap.size:=oM))
  (try(have am:w.heap.size+1+1<u.heap.size:=oM))
  (try(have an:w.heap.size+1+1+1<u.heap.size:=oM))
  go_wp2_with fail
  refine kO f (cE d aj) (fun d=>?_);clear f K;refine call3 (i:=4) (j:=9) (k:=10) (fun K f=>?_) (fun K f=>?_) (fun K f=>?_)
  ·skip
   go_simp
   (with_reducible refine cM (HQ.out _ eA _ (ai.ext eA)) ?_)
   rintro e l ⟨rq,rr,rfl,ag,ah,aa⟩;obtain⟨⟨aq,mq,cq,sq,rfl⟩,ar,mr,cr,sr,rfl⟩:=And.intro ag.form ah.form;obtain⟨Q,T⟩:=aa.cells;have z2:=aa.size
   (try simp only [wZ,qdZ]at z2)
   (try(have n:w.heap.size<l.heap.size:=oM))
   (try(have r:w.heap.size+1<l.heap.size:=oM))
   (try(have ak:w.heap.size+1+1<l.heap.size:=oM))
   (try(have al:w.heap.size+1+1+1<l.heap.size:=oM))
   (try(have z:u.heap.size<l.heap.size:=oM))
   (try(have ad:u.heap.size+1<l.heap.size:=oM))
   (try(have D:w.heap.size<u.heap.size+1:=oM))
   (try(have P:w.heap.size+1<u.heap.size+1:=oM))
   (try(have ae:w.heap.size<l.heap.size+1:=oM))
   (try(have af:w.heap.size+1<l.heap.size+1:=oM))
   (try(have t:u.heap.size<l.heap.size+1:=oM))
   (try(have n1:u.heap.size<u.heap.size+1+1:=oM))
   (try(have n2:u.heap.size<u.heap.size+1:=oM))
   (try(have n3:l.heap.size<l.heap.size+1+1:=oM))
   (try(have n4:l.heap.size<l.heap.size+1:=oM))
   go_wp2_with fail
   refine kO f (cE d aa) (fun d=>?_);clear f K;refine sN 5 ?_
   iterate 4
    refine tkn ?_
   refine oN ?_;refine call2 (i:=9) (j:=10) (fun K f=>?_) (fun K f=>?_)
   ·skip
    go_simp;refine kO f (cE d ((eR _).alloc _)) (fun d=>?_);clear f K;refine cl1 (i:=10) fun K f=>?_
    go_simp;refine kO f (cE d ((eR _).alloc _)) (fun d=>?_);clear f K;refine cl1 (i:=11) fun K f=>?_
    go_simp;refine kO f (by first|(refine⟨?_,?_,?_,trivial⟩<;>(focus(go_simp;done)))|exact CellL.set (CellL.set d (hn _ oM) _) (hn _ oM) _) (fun d=>?_);clear f K;refine cl1 (i:=12) fun K f=>?_
    go_simp;refine kO f (by first|(refine⟨?_,?_,?_,trivial⟩<;>(focus(go_simp;done)))|exact CellL.set (CellL.set d (hn _ oM) _) (hn _ oM) _) (fun d=>?_);clear f K;refine tk1 (i:=13) ?_;refine wpAnyH_done kM ?_ _;go_wp2;refine bR (v:=Z #[O aq mq cq,Y sq]) (by first|(simp [results,Tryz.results55,go_sem,ab,ac,Q,T,x,y,n,r,z,ad,D,P,t];done)|(simp [results,Tryz.results55,go_sem,ab,ac,Q,T,x,y,n,r,z,D,P,ae,af,t];done)|(simp [results,Tryz.results55,go_sem,ab,ac,Q,T,x,y,n,r];done)) rfl ?_;rw [←HR.out]
    trace_state
    exact⟨_,rfl,ag.keep kA,eA⟩
   ·skip
    go_simp;refine kO f (cE d ((eR _).alloc _)) (fun d=>?_);clear f K;refine cl1 (i:=9) fun K f=>?_
    go_simp;refine kO f (cE d ((eR _).alloc _)) (fun d=>?_);clear f K;refine cl1 (i:=11) fun K f=>?_
    go_simp;refine kO f (by first|(refine⟨?_,?_,?_,trivial⟩<;>(focus(go_simp;done)))|exact CellL.set (CellL.set d (hn _ oM) _) (hn _ oM) _) (fun d=>?_);clear f K;refine cl1 (i:=12) fun K f=>?_
    go_simp;refine kO f (by first|(refine⟨?_,?_,?_,trivial⟩<;>(focus(go_simp;done)))|exact CellL.set (CellL.set d (hn _ oM) _) (hn _ oM) _) (fun d=>?_);clear f K;refine tk1 (i:=13) ?_;refine wpAnyH_done kM ?_ _;go_wp2;refine bR (v:=Z #[O aq mq cq,Y sq]) (by first|(simp [results,Tryz.results55,go_sem,ab,ac,Q,T,x,y,n,r,z,ad,D,P,t];done)|(simp [results,Tryz.results55,go_sem,ab,ac,Q,T,x,y,n,r,z,D,P,ae,af,t];done)|(simp [results,Tryz.results55,go_sem,ab,ac,Q,T,x,y,n,r];done)) rfl ?_;rw [←HR.out]
    trace_state
    exact⟨_,rfl,ag.keep kA,eA⟩
  ·skip
   go_simp;refine kO f (cE d ((eR _).alloc _)) (fun d=>?_);clear f K;refine call2 (i:=4) (j:=10) (fun K f=>?_) (fun K f=>?_)
   ·skip
    go_simp
    (with_reducible refine cM (HQ.out _ eA _ (ai.ext eA)) ?_)
    rintro e l ⟨rq,rr,rfl,ag,ah,aa⟩;obtain⟨⟨aq,mq,cq,sq,rfl⟩,ar,mr,cr,sr,rfl⟩:=And.intro ag.form ah.form;obtain⟨Q,T⟩:=aa.cells;have z2:=aa.size
    (try simp only [wZ,qdZ]at z2)
    (try(have n:w.heap.size<l.heap.size:=oM))
    (try(have r:w.heap.size+1<l.heap.size:=oM))
    (try(have ak:w.heap.size+1+1<l.heap.size:=oM))
    (try(have al:w.heap.size+1+1+1<l.heap.size:=oM))
    (try(have z:u.heap.size<l.heap.size:=oM))
    (try(have ad:u.heap.size+1<l.heap.size:=oM))
    (try(have D:w.heap.size<u.heap.size+1:=oM))
    (try(have P:w.heap.size+1<u.heap.size+1:=oM))
    (try(have ae:w.heap.size<l.heap.size+1:=oM))
    (try(have af:w.heap.size+1<l.heap.size+1:=oM))
    (try(have t:u.heap.size<l.heap.size+1:=oM))
    (try(have n1:u.heap.size<u.heap.size+1+1:=oM))
    (try(have n2:u.heap.size<u.heap.size+1:=oM))
    (try(have n3:l.heap.size<l.heap.size+1+1:=oM))
    (try(have n4:l.heap.size<l.heap.size+1:=oM))
    go_wp2_with fail
    refine kO f (cE d aa) (fun d=>?_);clear f K;refine sN 5 ?_
    iterate 4
     refine tkn ?_
    refine oN ?_;refine cl1 (i:=10) fun K f=>?_
    go_simp;refine kO f (cE d ((eR _).alloc _)) (fun d=>?_);clear f K;refine cl1 (i:=11) fun K f=>?_
    go_simp;refine kO f (by first|(refine⟨?_,?_,?_,trivial⟩<;>(focus(go_simp;done)))|exact CellL.set (CellL.set d (hn _ oM) _) (hn _ oM) _) (fun d=>?_);clear f K;refine cl1 (i:=12) fun K f=>?_
    go_simp;refine kO f (by first|(refine⟨?_,?_,?_,trivial⟩<;>(focus(go_simp;done)))|exact CellL.set (CellL.set d (hn _ oM) _) (hn _ oM) _) (fun d=>?_);clear f K;refine tk1 (i:=13) ?_;refine wpAnyH_done kM ?_ _;go_wp2;refine bR (v:=Z #[O aq mq cq,Y sq]) (by first|(simp [results,Tryz.results55,go_sem,ab,ac,Q,T,x,y,n,r,z,ad,D,P,t];done)|(simp [results,Tryz.results55,go_sem,ab,ac,Q,T,x,y,n,r,z,D,P,ae,af,t];done)|(simp [results,Tryz.results55,go_sem,ab,ac,Q,T,x,y,n,r];done)) rfl ?_;rw [←HR.out]
    trace_state
    exact⟨_,rfl,ag.keep kA,eA⟩
   ·skip
    go_simp;refine kO f (cE d ((eR _).alloc _)) (fun d=>?_);clear f K;refine cl1 (i:=4) fun K f=>?_
    go_simp
    (with_reducible refine cM (HQ.out _ eA _ (ai.ext eA)) ?_)
    rintro e l ⟨rq,rr,rfl,ag,ah,aa⟩;obtain⟨⟨aq,mq,cq,sq,rfl⟩,ar,mr,cr,sr,rfl⟩:=And.intro ag.form ah.form;obtain⟨Q,T⟩:=aa.cells;have z2:=aa.size
    (try simp only [wZ,qdZ]at z2)
    (try(have n:w.heap.size<l.heap.size:=oM))
    (try(have r:w.heap.size+1<l.heap.size:=oM))
    (try(have ak:w.heap.size+1+1<l.heap.size:=oM))
    (try(have al:w.heap.size+1+1+1<l.heap.size:=oM))
    (try(have z:u.heap.size<l.heap.size:=oM))
    (try(have ad:u.heap.size+1<l.heap.size:=oM))
    (try(have D:w.heap.size<u.heap.size+1:=oM))
    (try(have P:w.heap.size+1<u.heap.size+1:=oM))
    (try(have ae:w.heap.size<l.heap.size+1:=oM))
    (try(have af:w.heap.size+1<l.heap.size+1:=oM))
    (try(have t:u.heap.size<l.heap.size+1:=oM))
    (try(have n1:u.heap.size<u.heap.size+1+1:=oM))
    (try(have n2:u.heap.size<u.heap.size+1:=oM))
    (try(have n3:l.heap.size<l.heap.size+1+1:=oM))
    (try(have n4:l.heap.size<l.heap.size+1:=oM))
    go_wp2_with fail
    refine kO f (cE d aa) (fun d=>?_);clear f K;refine sN 5 ?_
    iterate 4
     refine tkn ?_
    refine oN ?_;refine cl1 (i:=11) fun K f=>?_
    go_simp;refine kO f (by first|(refine⟨?_,?_,?_,trivial⟩<;>(focus(go_simp;done)))|exact CellL.set (CellL.set d (hn _ oM) _) (hn _ oM) _) (fun d=>?_);clear f K;refine cl1 (i:=12) fun K f=>?_
    go_simp;refine kO f (by first|(refine⟨?_,?_,?_,trivial⟩<;>(focus(go_simp;done)))|exact CellL.set (CellL.set d (hn _ oM) _) (hn _ oM) _) (fun d=>?_);clear f K;refine tk1 (i:=13) ?_;refine wpAnyH_done kM ?_ _;go_wp2;refine bR (v:=Z #[O aq mq cq,Y sq]) (by first|(simp [results,Tryz.results55,go_sem,ab,ac,Q,T,x,y,n,r,z,ad,D,P,t];done)|(simp [results,Tryz.results55,go_sem,ab,ac,Q,T,x,y,n,r,z,D,P,ae,af,t];done)|(simp [results,Tryz.results55,go_sem,ab,ac,Q,T,x,y,n,r];done)) rfl ?_;rw [←HR.out]
    trace_state
    exact⟨_,rfl,ag.keep kA,eA⟩
  ·skip
   go_simp;refine kO f (cE d ((eR _).alloc _)) (fun d=>?_);clear f K;refine call2 (i:=4) (j:=9) (fun K f=>?_) (fun K f=>?_)
   ·skip
    go_simp
    (with_reducible refine cM (HQ.out _ eA _ (ai.ext eA)) ?_)
    rintro e l ⟨rq,rr,rfl,ag,ah,aa⟩;obtain⟨⟨aq,mq,cq,sq,rfl⟩,ar,mr,cr,sr,rfl⟩:=And.intro ag.form ah.form;obtain⟨Q,T⟩:=aa.cells;have z2:=aa.size
    (try simp only [wZ,qdZ]at z2)
    (try(have n:w.heap.size<l.heap.size:=oM))
    (try(have r:w.heap.size+1<l.heap.size:=oM))
    (try(have ak:w.heap.size+1+1<l.heap.size:=oM))
    (try(have al:w.heap.size+1+1+1<l.heap.size:=oM))
    (try(have z:u.heap.size<l.heap.size:=oM))
    (try(have ad:u.heap.size+1<l.heap.size:=oM))
    (try(have D:w.heap.size<u.heap.size+1:=oM))
    (try(have P:w.heap.size+1<u.heap.size+1:=oM))
    (try(have ae:w.heap.size<l.heap.size+1:=oM))
    (try(have af:w.heap.size+1<l.heap.size+1:=oM))
    (try(have t:u.heap.size<l.heap.size+1:=oM))
    (try(have n1:u.heap.size<u.heap.size+1+1:=oM))
    (try(have n2:u.heap.size<u.heap.size+1:=oM))
    (try(have n3:l.heap.size<l.heap.size+1+1:=oM))
    (try(have n4:l.heap.size<l.heap.size+1:=oM))
    go_wp2_with fail
    refine kO f (cE d aa) (fun d=>?_);clear f K;refine sN 5 ?_
    iterate 4
     refine tkn ?_
    refine oN ?_;refine cl1 (i:=9) fun K f=>?_
    go_simp;refine kO f (cE d ((eR _).alloc _)) (fun d=>?_);clear f K;refine cl1 (i:=11) fun K f=>?_
    go_simp;refine kO f (by first|(refine⟨?_,?_,?_,trivial⟩<;>(focus(go_simp;done)))|exact CellL.set (CellL.set d (hn _ oM) _) (hn _ oM) _) (fun d=>?_);clear f K;refine cl1 (i:=12) fun K f=>?_
    go_simp;refine kO f (by first|(refine⟨?_,?_,?_,trivial⟩<;>(focus(go_simp;done)))|exact CellL.set (CellL.set d (hn _ oM) _) (hn _ oM) _) (fun d=>?_);clear f K;refine tk1 (i:=13) ?_;refine wpAnyH_done kM ?_ _;go_wp2;refine bR (v:=Z #[O aq mq cq,Y sq]) (by first|(simp [results,Tryz.results55,go_sem,ab,ac,Q,T,x,y,n,r,z,ad,D,P,t];done)|(simp [results,Tryz.results55,go_sem,ab,ac,Q,T,x,y,n,r,z,D,P,ae,af,t];done)|(simp [results,Tryz.results55,go_sem,ab,ac,Q,T,x,y,n,r];done)) rfl ?_;rw [←HR.out]
    trace_state
    exact⟨_,rfl,ag.keep kA,eA⟩
   ·skip
    go_simp;refine kO f (cE d ((eR _).alloc _)) (fun d=>?_);clear f K;refine cl1 (i:=4) fun K f=>?_
    go_simp
    (with_reducible refine cM (HQ.out _ eA _ (ai.ext eA)) ?_)
    rintro e l ⟨rq,rr,rfl,ag,ah,aa⟩;obtain⟨⟨aq,mq,cq,sq,rfl⟩,ar,mr,cr,sr,rfl⟩:=And.intro ag.form ah.form;obtain⟨Q,T⟩:=aa.cells;have z2:=aa.size
    (try simp only [wZ,qdZ]at z2)
    (try(have n:w.heap.size<l.heap.size:=oM))
    (try(have r:w.heap.size+1<l.heap.size:=oM))
    (try(have ak:w.heap.size+1+1<l.heap.size:=oM))
    (try(have al:w.heap.size+1+1+1<l.heap.size:=oM))
    (try(have z:u.heap.size<l.heap.size:=oM))
    (try(have ad:u.heap.size+1<l.heap.size:=oM))
    (try(have D:w.heap.size<u.heap.size+1:=oM))
    (try(have P:w.heap.size+1<u.heap.size+1:=oM))
    (try(have ae:w.heap.size<l.heap.size+1:=oM))
    (try(have af:w.heap.size+1<l.heap.size+1:=oM))
    (try(have t:u.heap.size<l.heap.size+1:=oM))
    (try(have n1:u.heap.size<u.heap.size+1+1:=oM))
    (try(have n2:u.heap.size<u.heap.size+1:=oM))
    (try(have n3:l.heap.size<l.heap.size+1+1:=oM))
    (try(have n4:l.heap.size<l.heap.size+1:=oM))
    go_wp2_with fail
    refine kO f (cE d aa) (fun d=>?_);clear f K;refine sN 5 ?_
    iterate 4
     refine tkn ?_
    refine oN ?_;refine cl1 (i:=11) fun K f=>?_
    go_simp;refine kO f (by first|(refine⟨?_,?_,?_,trivial⟩<;>(focus(go_simp;done)))|exact CellL.set (CellL.set d (hn _ oM) _) (hn _ oM) _) (fun d=>?_);clear f K;refine cl1 (i:=12) fun K f=>?_
    go_simp;refine kO f (by first|(refine⟨?_,?_,?_,trivial⟩<;>(focus(go_simp;done)))|exact CellL.set (CellL.set d (hn _ oM) _) (hn _ oM) _) (fun d=>?_);clear f K;refine tk1 (i:=13) ?_;refine wpAnyH_done kM ?_ _;go_wp2;refine bR (v:=Z #[O aq mq cq,Y sq]) (by first|(simp [results,Tryz.results55,go_sem,ab,ac,Q,T,x,y,n,r,z,ad,D,P,t];done)|(simp [results,Tryz.results55,go_sem,ab,ac,Q,T,x,y,n,r,z,D,P,ae,af,t];done)|(simp [results,Tryz.results55,go_sem,ab,ac,Q,T,x,y,n,r];done)) rfl ?_;rw [←HR.out]
    trace_state
    exact⟨_,rfl,ag.keep kA,eA⟩
 ·skip
  go_simp;refine kO f (cE d ((eR _).alloc _)) (fun d=>?_);clear f K;refine call2 (i:=3) (j:=10) (fun K f=>?_) (fun K f=>?_)
  ·skip
   go_simp
   (with_reducible refine cM (HB.out _ eA) ?_)
   rintro e u ⟨r1,rfl,ai,aj⟩;obtain⟨a1,m1,c1,s1,rfl⟩:=ai.form;obtain⟨ab,ac⟩:=aj.cells;have z1:=aj.size
   (try simp only [wZ,qdZ]at z1)
   (try(have x:w.heap.size<u.heap.size:=oM))
   (try(have y:w.heap.size+1<u.heap.size:=oM))
   (try(have am:w.heap.size+1+1<u.heap.size:=oM))
   (try(have an:w.heap.size+1+1+1<u.heap.size:=oM))
   go_wp2_with fail
   refine kO f (cE d aj) (fun d=>?_);clear f K;refine call2 (i:=4) (j:=10) (fun K f=>?_) (fun K f=>?_)
   ·skip
    go_simp
    (with_reducible refine cM (HQ.out _ eA _ (ai.ext eA)) ?_)
    rintro e l ⟨rq,rr,rfl,ag,ah,aa⟩;obtain⟨⟨aq,mq,cq,sq,rfl⟩,ar,mr,cr,sr,rfl⟩:=And.intro ag.form ah.form;obtain⟨Q,T⟩:=aa.cells;have z2:=aa.size
    (try simp only [wZ,qdZ]at z2)
    (try(have n:w.heap.size<l.heap.size:=oM))
    (try(have r:w.heap.size+1<l.heap.size:=oM))
    (try(have ak:w.heap.size+1+1<l.heap.size:=oM))
    (try(have al:w.heap.size+1+1+1<l.heap.size:=oM))
    (try(have z:u.heap.size<l.heap.size:=oM))
    (try(have ad:u.heap.size+1<l.heap.size:=oM))
    (try(have D:w.heap.size<u.heap.size+1:=oM))
    (try(have P:w.heap.size+1<u.heap.size+1:=oM))
    (try(have ae:w.heap.size<l.heap.size+1:=oM))
    (try(have af:w.heap.size+1<l.heap.size+1:=oM))
    (try(have t:u.heap.size<l.heap.size+1:=oM))
    (try(have n1:u.heap.size<u.heap.size+1+1:=oM))
    (try(have n2:u.heap.size<u.heap.size+1:=oM))
    (try(have n3:l.heap.size<l.heap.size+1+1:=oM))
    (try(have n4:l.heap.size<l.heap.size+1:=oM))
    go_wp2_with fail
    refine kO f (cE d aa) (fun d=>?_);clear f K;refine sN 5 ?_
    iterate 4
     refine tkn ?_
    refine oN ?_;refine cl1 (i:=10) fun K f=>?_
    go_simp;refine kO f (cE d ((eR _).alloc _)) (fun d=>?_);clear f K;refine cl1 (i:=11) fun K f=>?_
    go_simp;refine kO f (by first|(refine⟨?_,?_,?_,trivial⟩<;>(focus(go_simp;done)))|exact CellL.set (CellL.set d (hn _ oM) _) (hn _ oM) _) (fun d=>?_);clear f K;refine cl1 (i:=12) fun K f=>?_
    go_simp;refine kO f (by first|(refine⟨?_,?_,?_,trivial⟩<;>(focus(go_simp;done)))|exact CellL.set (CellL.set d (hn _ oM) _) (hn _ oM) _) (fun d=>?_);clear f K;refine tk1 (i:=13) ?_;refine wpAnyH_done kM ?_ _;go_wp2;refine bR (v:=Z #[O aq mq cq,Y sq]) (by first|(simp [results,Tryz.results55,go_sem,ab,ac,Q,T,x,y,n,r,z,ad,D,P,t];done)|(simp [results,Tryz.results55,go_sem,ab,ac,Q,T,x,y,n,r,z,D,P,ae,af,t];done)|(simp [results,Tryz.results55,go_sem,ab,ac,Q,T,x,y,n,r];done)) rfl ?_;rw [←HR.out]
    trace_state
    exact⟨_,rfl,ag.keep kA,eA⟩
   ·skip
    go_simp;refine kO f (cE d ((eR _).alloc _)) (fun d=>?_);clear f K;refine cl1 (i:=4) fun K f=>?_
    go_simp
    (with_reducible refine cM (HQ.out _ eA _ (ai.ext eA)) ?_)
    rintro e l ⟨rq,rr,rfl,ag,ah,aa⟩;obtain⟨⟨aq,mq,cq,sq,rfl⟩,ar,mr,cr,sr,rfl⟩:=And.intro ag.form ah.form;obtain⟨Q,T⟩:=aa.cells;have z2:=aa.size
    (try simp only [wZ,qdZ]at z2)
    (try(have n:w.heap.size<l.heap.size:=oM))
    (try(have r:w.heap.size+1<l.heap.size:=oM))
    (try(have ak:w.heap.size+1+1<l.heap.size:=oM))
    (try(have al:w.heap.size+1+1+1<l.heap.size:=oM))
    (try(have z:u.heap.size<l.heap.size:=oM))
    (try(have ad:u.heap.size+1<l.heap.size:=oM))
    (try(have D:w.heap.size<u.heap.size+1:=oM))
    (try(have P:w.heap.size+1<u.heap.size+1:=oM))
    (try(have ae:w.heap.size<l.heap.size+1:=oM))
    (try(have af:w.heap.size+1<l.heap.size+1:=oM))
    (try(have t:u.heap.size<l.heap.size+1:=oM))
    (try(have n1:u.heap.size<u.heap.size+1+1:=oM))
    (try(have n2:u.heap.size<u.heap.size+1:=oM))
    (try(have n3:l.heap.size<l.heap.size+1+1:=oM))
    (try(have n4:l.heap.size<l.heap.size+1:=oM))
    go_wp2_with fail
    refine kO f (cE d aa) (fun d=>?_);clear f K;refine sN 5 ?_
    iterate 4
     refine tkn ?_
    refine oN ?_;refine cl1 (i:=11) fun K f=>?_
    go_simp;refine kO f (by first|(refine⟨?_,?_,?_,trivial⟩<;>(focus(go_simp;done)))|exact CellL.set (CellL.set d (hn _ oM) _) (hn _ oM) _) (fun d=>?_);clear f K;refine cl1 (i:=12) fun K f=>?_
    go_simp;refine kO f (by first|(refine⟨?_,?_,?_,trivial⟩<;>(focus(go_simp;done)))|exact CellL.set (CellL.set d (hn _ oM) _) (hn _ oM) _) (fun d=>?_);clear f K;refine tk1 (i:=13) ?_;refine wpAnyH_done kM ?_ _;go_wp2;refine bR (v:=Z #[O aq mq cq,Y sq]) (by first|(simp [results,Tryz.results55,go_sem,ab,ac,Q,T,x,y,n,r,z,ad,D,P,t];done)|(simp [results,Tryz.results55,go_sem,ab,ac,Q,T,x,y,n,r,z,D,P,ae,af,t];done)|(simp [results,Tryz.results55,go_sem,ab,ac,Q,T,x,y,n,r];done)) rfl ?_;rw [←HR.out]
    trace_state
    exact⟨_,rfl,ag.keep kA,eA⟩
  ·skip
   go_simp;refine kO f (cE d ((eR _).alloc _)) (fun d=>?_);clear f K;refine cl1 (i:=3) fun K f=>?_
   go_simp
   (with_reducible refine cM (HB.out _ eA) ?_)
   rintro e u ⟨r1,rfl,ai,aj⟩;obtain⟨a1,m1,c1,s1,rfl⟩:=ai.form;obtain⟨ab,ac⟩:=aj.cells;have z1:=aj.size
   (try simp only [wZ,qdZ]at z1)
   (try(have x:w.heap.size<u.heap.size:=oM))
   (try(have y:w.heap.size+1<u.heap.size:=oM))
   (try(have am:w.heap.size+1+1<u.heap.size:=oM))
   (try(have an:w.heap.size+1+1+1<u.heap.size:=oM))
   go_wp2_with fail
   refine kO f (cE d aj) (fun d=>?_);clear f K;refine cl1 (i:=4) fun K f=>?_
   go_simp
   (with_reducible refine cM (HQ.out _ eA _ (ai.ext eA)) ?_)
   rintro e l ⟨rq,rr,rfl,ag,ah,aa⟩;obtain⟨⟨aq,mq,cq,sq,rfl⟩,ar,mr,cr,sr,rfl⟩:=And.intro ag.form ah.form;obtain⟨Q,T⟩:=aa.cells;have z2:=aa.size
   (try simp only [wZ,qdZ]at z2)
   (try(have n:w.heap.size<l.heap.size:=oM))
   (try(have r:w.heap.size+1<l.heap.size:=oM))
   (try(have ak:w.heap.size+1+1<l.heap.size:=oM))
   (try(have al:w.heap.size+1+1+1<l.heap.size:=oM))
   (try(have z:u.heap.size<l.heap.size:=oM))
   (try(have ad:u.heap.size+1<l.heap.size:=oM))
   (try(have D:w.heap.size<u.heap.size+1:=oM))
   (try(have P:w.heap.size+1<u.heap.size+1:=oM))
   (try(have ae:w.heap.size<l.heap.size+1:=oM))
   (try(have af:w.heap.size+1<l.heap.size+1:=oM))
   (try(have t:u.heap.size<l.heap.size+1:=oM))
   (try(have n1:u.heap.size<u.heap.size+1+1:=oM))
   (try(have n2:u.heap.size<u.heap.size+1:=oM))
   (try(have n3:l.heap.size<l.heap.size+1+1:=oM))
   (try(have n4:l.heap.size<l.heap.size+1:=oM))
   go_wp2_with fail
   refine kO f (cE d aa) (fun d=>?_);clear f K;refine sN 5 ?_
   iterate 4
    refine tkn ?_
   refine oN ?_;refine cl1 (i:=11) fun K f=>?_
   go_simp;refine kO f (by first|(refine⟨?_,?_,?_,trivial⟩<;>(focus(go_simp;done)))|exact CellL.set (CellL.set d (hn _ oM) _) (hn _ oM) _) (fun d=>?_);clear f K;refine cl1 (i:=12) fun K f=>?_
   go_simp;refine kO f (by first|(refine⟨?_,?_,?_,trivial⟩<;>(focus(go_simp;done)))|exact CellL.set (CellL.set d (hn _ oM) _) (hn _ oM) _) (fun d=>?_);clear f K;refine tk1 (i:=13) ?_;refine wpAnyH_done kM ?_ _;go_wp2;refine bR (v:=Z #[O aq mq cq,Y sq]) (by first|(simp [results,Tryz.results55,go_sem,ab,ac,Q,T,x,y,n,r,z,ad,D,P,t];done)|(simp [results,Tryz.results55,go_sem,ab,ac,Q,T,x,y,n,r,z,D,P,ae,af,t];done)|(simp [results,Tryz.results55,go_sem,ab,ac,Q,T,x,y,n,r];done)) rfl ?_;rw [←HR.out]
   trace_state
   exact⟨_,rfl,ag.keep kA,eA⟩
 ·skip
  go_simp;refine kO f (cE d ((eR _).alloc _)) (fun d=>?_);clear f K;refine call2 (i:=3) (j:=9) (fun K f=>?_) (fun K f=>?_)
  ·skip
   go_simp
   (with_reducible refine cM (HB.out _ eA) ?_)
   rintro e u ⟨r1,rfl,ai,aj⟩;obtain⟨a1,m1,c1,s1,rfl⟩:=ai.form;obtain⟨ab,ac⟩:=aj.cells;have z1:=aj.size
   (try simp only [wZ,qdZ]at z1)
   (try(have x:w.heap.size<u.heap.size:=oM))
   (try(have y:w.heap.size+1<u.heap.size:=oM))
   (try(have am:w.heap.size+1+1<u.heap.size:=oM))
   (try(have an:w.heap.size+1+1+1<u.heap.size:=oM))
   go_wp2_with fail
   refine kO f (cE d aj) (fun d=>?_);clear f K;refine call2 (i:=4) (j:=9) (fun K f=>?_) (fun K f=>?_)
   ·skip
    go_simp
    (with_reducible refine cM (HQ.out _ eA _ (ai.ext eA)) ?_)
    rintro e l ⟨rq,rr,rfl,ag,ah,aa⟩;obtain⟨⟨aq,mq,cq,sq,rfl⟩,ar,mr,cr,sr,rfl⟩:=And.intro ag.form ah.form;obtain⟨Q,T⟩:=aa.cells;have z2:=aa.size
    (try simp only [wZ,qdZ]at z2)
    (try(have n:w.heap.size<l.heap.size:=oM))
    (try(have r:w.heap.size+1<l.heap.size:=oM))
    (try(have ak:w.heap.size+1+1<l.heap.size:=oM))
    (try(have al:w.heap.size+1+1+1<l.heap.size:=oM))
    (try(have z:u.heap.size<l.heap.size:=oM))
    (try(have ad:u.heap.size+1<l.heap.size:=oM))
    (try(have D:w.heap.size<u.heap.size+1:=oM))
    (try(have P:w.heap.size+1<u.heap.size+1:=oM))
    (try(have ae:w.heap.size<l.heap.size+1:=oM))
    (try(have af:w.heap.size+1<l.heap.size+1:=oM))
    (try(have t:u.heap.size<l.heap.size+1:=oM))
    (try(have n1:u.heap.size<u.heap.size+1+1:=oM))
    (try(have n2:u.heap.size<u.heap.size+1:=oM))
    (try(have n3:l.heap.size<l.heap.size+1+1:=oM))
    (try(have n4:l.heap.size<l.heap.size+1:=oM))
    go_wp2_with fail
    refine kO f (cE d aa) (fun d=>?_);clear f K;refine sN 5 ?_
    iterate 4
     refine tkn ?_
    refine oN ?_;refine cl1 (i:=9) fun K f=>?_
    go_simp;refine kO f (cE d ((eR _).alloc _)) (fun d=>?_);clear f K;refine cl1 (i:=11) fun K f=>?_
    go_simp;refine kO f (by first|(refine⟨?_,?_,?_,trivial⟩<;>(focus(go_simp;done)))|exact CellL.set (CellL.set d (hn _ oM) _) (hn _ oM) _) (fun d=>?_);clear f K;refine cl1 (i:=12) fun K f=>?_
    go_simp;refine kO f (by first|(refine⟨?_,?_,?_,trivial⟩<;>(focus(go_simp;done)))|exact CellL.set (CellL.set d (hn _ oM) _) (hn _ oM) _) (fun d=>?_);clear f K;refine tk1 (i:=13) ?_;refine wpAnyH_done kM ?_ _;go_wp2;refine bR (v:=Z #[O aq mq cq,Y sq]) (by first|(simp [results,Tryz.results55,go_sem,ab,ac,Q,T,x,y,n,r,z,ad,D,P,t];done)|(simp [results,Tryz.results55,go_sem,ab,ac,Q,T,x,y,n,r,z,D,P,ae,af,t];done)|(simp [results,Tryz.results55,go_sem,ab,ac,Q,T,x,y,n,r];done)) rfl ?_;rw [←HR.out]
    trace_state
    exact⟨_,rfl,ag.keep kA,eA⟩
   ·skip
    go_simp;refine kO f (cE d ((eR _).alloc _)) (fun d=>?_);clear f K;refine cl1 (i:=4) fun K f=>?_
    go_simp
    (with_reducible refine cM (HQ.out _ eA _ (ai.ext eA)) ?_)
    rintro e l ⟨rq,rr,rfl,ag,ah,aa⟩;obtain⟨⟨aq,mq,cq,sq,rfl⟩,ar,mr,cr,sr,rfl⟩:=And.intro ag.form ah.form;obtain⟨Q,T⟩:=aa.cells;have z2:=aa.size
    (try simp only [wZ,qdZ]at z2)
    (try(have n:w.heap.size<l.heap.size:=oM))
    (try(have r:w.heap.size+1<l.heap.size:=oM))
    (try(have ak:w.heap.size+1+1<l.heap.size:=oM))
    (try(have al:w.heap.size+1+1+1<l.heap.size:=oM))
    (try(have z:u.heap.size<l.heap.size:=oM))
    (try(have ad:u.heap.size+1<l.heap.size:=oM))
    (try(have D:w.heap.size<u.heap.size+1:=oM))
    (try(have P:w.heap.size+1<u.heap.size+1:=oM))
    (try(have ae:w.heap.size<l.heap.size+1:=oM))
    (try(have af:w.heap.size+1<l.heap.size+1:=oM))
    (try(have t:u.heap.size<l.heap.size+1:=oM))
    (try(have n1:u.heap.size<u.heap.size+1+1:=oM))
    (try(have n2:u.heap.size<u.heap.size+1:=oM))
    (try(have n3:l.heap.size<l.heap.size+1+1:=oM))
    (try(have n4:l.heap.size<l.heap.size+1:=oM))
    go_wp2_with fail
    refine kO f (cE d aa) (fun d=>?_);clear f K;refine sN 5 ?_
    iterate 4
     refine tkn ?_
    refine oN ?_;refine cl1 (i:=11) fun K f=>?_
    go_simp;refine kO f (by first|(refine⟨?_,?_,?_,trivial⟩<;>(focus(go_simp;done)))|exact CellL.set (CellL.set d (hn _ oM) _) (hn _ oM) _) (fun d=>?_);clear f K;refine cl1 (i:=12) fun K f=>?_
    go_simp;refine kO f (by first|(refine⟨?_,?_,?_,trivial⟩<;>(focus(go_simp;done)))|exact CellL.set (CellL.set d (hn _ oM) _) (hn _ oM) _) (fun d=>?_);clear f K;refine tk1 (i:=13) ?_;refine wpAnyH_done kM ?_ _;go_wp2;refine bR (v:=Z #[O aq mq cq,Y sq]) (by first|(simp [results,Tryz.results55,go_sem,ab,ac,Q,T,x,y,n,r,z,ad,D,P,t];done)|(simp [results,Tryz.results55,go_sem,ab,ac,Q,T,x,y,n,r,z,D,P,ae,af,t];done)|(simp [results,Tryz.results55,go_sem,ab,ac,Q,T,x,y,n,r];done)) rfl ?_;rw [←HR.out]
    trace_state
    exact⟨_,rfl,ag.keep kA,eA⟩
  ·skip
   go_simp;refine kO f (cE d ((eR _).alloc _)) (fun d=>?_);clear f K;refine cl1 (i:=3) fun K f=>?_
   go_simp
   (with_reducible refine cM (HB.out _ eA) ?_)
   rintro e u ⟨r1,rfl,ai,aj⟩;obtain⟨a1,m1,c1,s1,rfl⟩:=ai.form;obtain⟨ab,ac⟩:=aj.cells;have z1:=aj.size
   (try simp only [wZ,qdZ]at z1)
   (try(have x:w.heap.size<u.heap.size:=oM))
   (try(have y:w.heap.size+1<u.heap.size:=oM))
   (try(have am:w.heap.size+1+1<u.heap.size:=oM))
   (try(have an:w.heap.size+1+1+1<u.heap.size:=oM))
   go_wp2_with fail
   refine kO f (cE d aj) (fun d=>?_);clear f K;refine cl1 (i:=4) fun K f=>?_
   go_simp
   (with_reducible refine cM (HQ.out _ eA _ (ai.ext eA)) ?_)
   rintro e l ⟨rq,rr,rfl,ag,ah,aa⟩;obtain⟨⟨aq,mq,cq,sq,rfl⟩,ar,mr,cr,sr,rfl⟩:=And.intro ag.form ah.form;obtain⟨Q,T⟩:=aa.cells;have z2:=aa.size
   (try simp only [wZ,qdZ]at z2)
   (try(have n:w.heap.size<l.heap.size:=oM))
   (try(have r:w.heap.size+1<l.heap.size:=oM))
   (try(have ak:w.heap.size+1+1<l.heap.size:=oM))
   (try(have al:w.heap.size+1+1+1<l.heap.size:=oM))
   (try(have z:u.heap.size<l.heap.size:=oM))
   (try(have ad:u.heap.size+1<l.heap.size:=oM))
   (try(have D:w.heap.size<u.heap.size+1:=oM))
   (try(have P:w.heap.size+1<u.heap.size+1:=oM))
   (try(have ae:w.heap.size<l.heap.size+1:=oM))
   (try(have af:w.heap.size+1<l.heap.size+1:=oM))
   (try(have t:u.heap.size<l.heap.size+1:=oM))
   (try(have n1:u.heap.size<u.heap.size+1+1:=oM))
   (try(have n2:u.heap.size<u.heap.size+1:=oM))
   (try(have n3:l.heap.size<l.heap.size+1+1:=oM))
   (try(have n4:l.heap.size<l.heap.size+1:=oM))
   go_wp2_with fail
   refine kO f (cE d aa) (fun d=>?_);clear f K;refine sN 5 ?_
   iterate 4
    refine tkn ?_
   refine oN ?_;refine cl1 (i:=11) fun K f=>?_
   go_simp;refine kO f (by first|(refine⟨?_,?_,?_,trivial⟩<;>(focus(go_simp;done)))|exact CellL.set (CellL.set d (hn _ oM) _) (hn _ oM) _) (fun d=>?_);clear f K;refine cl1 (i:=12) fun K f=>?_
   go_simp;refine kO f (by first|(refine⟨?_,?_,?_,trivial⟩<;>(focus(go_simp;done)))|exact CellL.set (CellL.set d (hn _ oM) _) (hn _ oM) _) (fun d=>?_);clear f K;refine tk1 (i:=13) ?_;refine wpAnyH_done kM ?_ _;go_wp2;refine bR (v:=Z #[O aq mq cq,Y sq]) (by first|(simp [results,Tryz.results55,go_sem,ab,ac,Q,T,x,y,n,r,z,ad,D,P,t];done)|(simp [results,Tryz.results55,go_sem,ab,ac,Q,T,x,y,n,r,z,D,P,ae,af,t];done)|(simp [results,Tryz.results55,go_sem,ab,ac,Q,T,x,y,n,r];done)) rfl ?_;rw [←HR.out]
   trace_state
   exact⟨_,rfl,ag.keep kA,eA⟩
theorem zlY (w:World) (v:Value) (n:Int) (h:IsZ w v n) (h0:0≤n) (h1:n<281474976710656) :
  Calls Tryz.prog 56 #[v] w fun e u=>e = .returned (.tuple #[.int .i64 n,Y true])∧Ext w u:=by
 obtain⟨a,m,c,s,rfl⟩:=h.form;have hs:s=false:=by rw [h.sgn];simp;omega
 subst hs;have hl:Lm lim n:=Lm.mono (j:=2) ⟨by unfold B;omega,by unfold B;omega⟩ dM;have y:Lm lim (-9223372036854775808):=Lm.mono (j:=3) ⟨by unfold B;omega,by unfold B;omega⟩ dM;have z:Lm lim 9223372036854775807:=Lm.mono (j:=3) ⟨by unfold B;omega,by unfold B;omega⟩ dM;have aa:=hd9 (fun(W:World)=>zcZ W (-9223372036854775808) dM dM);have ab:=hd9 (fun(W:World)=>zcZ W 9223372036854775807 dM dM);have Q:=hd9 (fun(W:World) (x:Ext w W) (v:Value) (hv:IsZ W v (-9223372036854775808))=>(zhY W (Z #[O a m c,Y false]) v n (-9223372036854775808) (h.ext x) hv hl y).mono fun e u (q:e = .returned (.int .i64 (n - -9223372036854775808).sign)∧Ext W u)=>(show e = .returned (.int .i64 1)∧Ext W u from by rw [Int.sign_eq_one_of_pos oM]at q;exact q));have T:=hd9 (fun(W:World) (x:Ext w W) (v:Value) (hv:IsZ W v 9223372036854775807)=>(zhY W (Z #[O a m c,Y false]) v n 9223372036854775807 (h.ext x) hv hl z).mono fun e u (q:e = .returned (.int .i64 (n-9223372036854775807).sign)∧Ext W u)=>(show e = .returned (.int .i64 (-1))∧Ext W u from by rw [Int.sign_eq_neg_one_of_neg oM]at q;exact q));have HW:=hd9 (fun(W:World) (x:Ext w W)=>zcX W (Z #[O a m c]) n (by have:=h.dig;rw [show ((n.natAbs:Nat):Int)=n by omega]at this;exact this.ext x) ⟨by unfold B;omega,by unfold B;omega⟩);clear h hl y z;go_enter Tryz.func56,Tryz.ntmps56;go_wp2;refine wp_region_held_drew (S:=CellL [(⟨w.heap.size,0,none⟩,O a m c),(⟨w.heap.size,1,none⟩,Y false)]) kM cA (fun b=>?_);refine tk1 (i:=0) ?_;refine cl1 (i:=1) fun K d=>?_
 go_simp
 (with_reducible refine cM (aa.out _) ?_)
 rintro e w1 ⟨r1,rfl,f,D⟩;obtain⟨a1,m1,c1,s1,rfl⟩:=f.form
 go_wp2_with fail
 refine kO d (cE b D) (fun b=>?_);clear d K;have X1:Ext w w1:=eA;refine cl1 (i:=2) fun K d=>?_
 go_simp
 (with_reducible refine cM (Q.out _ X1 _ f) ?_)
 rintro e w2 ⟨rfl,l⟩
 skip
 go_wp2_with fail
 refine kO d (cE b l) (fun b=>?_);clear d K;have X2:Ext w w2:=X1.trans l;refine sN 3 ?_
 iterate 3
  refine tkn ?_
 refine oN ?_;refine cl1 (i:=6) fun K d=>?_
 go_simp
 (with_reducible refine cM (ab.out _) ?_)
 rintro e w6 ⟨r6,rfl,k,r⟩;obtain⟨a6,m6,c6,s6,rfl⟩:=k.form
 go_wp2_with fail
 refine kO d (cE b r) (fun b=>?_);clear d K;have X6:Ext w w6:=X2.trans r;refine cl1 (i:=7) fun K d=>?_
 go_simp
 (with_reducible refine cM (T.out _ X6 _ k) ?_)
 rintro e w7 ⟨rfl,t⟩
 skip
 go_wp2_with fail
 refine kO d (cE b t) (fun b=>?_);clear d K;have X7:Ext w w7:=X6.trans t;refine sN 8 ?_
 iterate 2
  refine tkn ?_
 refine oN ?_;refine wpAnyH_done kM ?_ _;obtain⟨d0,d1,_⟩:=b;have e1:IntKind.i64.wrap n=n:=iW _ oM;clear D l r t X1 X2 X6 f k
 go_wp2_with((go_at_call 107;(with_reducible refine(HW.out _ X7).mono ?_);rintro e w8 ⟨rfl,P⟩;obtain⟨ac,ad⟩:=P.cells;(have z8:w.heap.size<w7.heap.size:=World.block_lt_of_cell? _ _ d0)))
 refine bR (v:=.tuple #[.int .i64 n,Y true]) (by simp [results,Tryz.results56,go_sem]) rfl ?_;exact⟨rfl,X7.trans P⟩
end
section
open Go.RowKit Go.Shelf Go.Sort Go.Lib
theorem zfv {p:Pl} (h:placedOk p=true):Rise (lowP2 p)∧Rise (upP2 p)∧lowP2 p≠[]∧upP2 p≠[]:=⟨(zam h).1,(zax h).1,(zag h).2.2.2.1,(zag h).2.2.2.2⟩
theorem zbB {p:Pl} {t:List (Int×Int)} {b pin:Int} (ho:(btw (lowP2 p) t).lo<(btw (lowP2 p) t).hi) (c:reachNo (btw (lowP2 p) t) pin=false) :
  bedO p t b pin=some ⟨b,(reachO (btw (lowP2 p) t) pin).1,atR (lowP2 p) (reachO (btw (lowP2 p) t) pin).1,(reachO (btw (lowP2 p) t) pin).2,atR (lowP2 p) (reachO (btw (lowP2 p) t) pin).2,slopeR t (reachO (btw (lowP2 p) t) pin).1 (reachO (btw (lowP2 p) t) pin).2,slopeR t (reachO (btw (lowP2 p) t) pin).2 (reachO (btw (lowP2 p) t) pin).2⟩:=by
 unfold bedO reachP reachO;rw [if_pos ho,c,if_neg dM];rfl
theorem zfH {p:Pl} {t:List (Int×Int)} {b pin:Int} {c:Be} (h:bedO p t b pin=some c):(btw (lowP2 p) t).lo<(btw (lowP2 p) t).hi∧reachNo (btw (lowP2 p) t) pin=false:=by
 unfold bedO at h
 by_cases ho:(btw (lowP2 p) t).lo<(btw (lowP2 p) t).hi
 ·rw [if_pos ho]at h
  unfold reachP at h
  cases hno:reachNo (btw (lowP2 p) t) pin with
  | true=>rw [hno]at h;cases h
  | false=>exact⟨ho,rfl⟩
 ·rw [if_neg ho]at h
  cases h
structure EndP (p:Pl) (t:List (Int×Int)) (pin:Int) (x:Rat):Prop where
 inL:((lineL (lowP2 p):Int):Rat)≤x∧x≤((lineR (lowP2 p):Int):Rat)
 inT:((lineL t:Int):Rat)≤x∧x≤((lineR t:Int):Rat)
 gap:0≤atR (lowP2 p) x-atR t x∧atR (lowP2 p) x-atR t x≤(pin:Rat)
theorem zfF {p:Pl} {t:List (Int×Int)} {b pin:Int} {d:Be} (hp:placedOk p=true) (u:Rise t) (w:t≠[]) (h:bedO p t b pin=some d) :
  d.num=b∧d.fz=atR (lowP2 p) d.fx∧d.tz=atR (lowP2 p) d.tx∧EndP p t pin d.fx∧EndP p t pin d.tx∧d.fx≤d.tx:=by
 obtain⟨x,_,v,_⟩:=zfv hp;obtain⟨ho,i⟩:=zfH h;rw [zbB ho i]at h;have h:=(Option.some.inj h).symm;obtain⟨⟨n,q,j,k⟩,⟨r,s,l,m⟩,c,_⟩:=zdg x u v w ho i
 have f:((lineL (lowP2 p):Int):Rat)≤(((btw (lowP2 p) t).lo:Int):Rat)∧((lineL t:Int):Rat)≤(((btw (lowP2 p) t).lo:Int):Rat):=by
  unfold btw;exact⟨Rat.intCast_le_intCast.2 dO,Rat.intCast_le_intCast.2 dO⟩
 have e:(((btw (lowP2 p) t).hi:Int):Rat)≤((lineR (lowP2 p):Int):Rat)∧(((btw (lowP2 p) t).hi:Int):Rat)≤((lineR t:Int):Rat):=by
  unfold btw;exact⟨Rat.intCast_le_intCast.2 dO,Rat.intCast_le_intCast.2 dO⟩
 unfold gapR at j k l m;rw [show (btw (lowP2 p) t).over=lowP2 p from rfl,show (btw (lowP2 p) t).under=t from rfl]at j k l m
 generalize reachO (btw (lowP2 p) t) pin=o at *
 subst h;dsimp only;refine⟨rfl,rfl,rfl,⟨?_,?_,?_⟩,⟨?_,?_,?_⟩,c⟩
 ·exact⟨Rat.le_trans f.1 n,Rat.le_trans q e.1⟩
 ·exact⟨Rat.le_trans f.2 n,Rat.le_trans q e.2⟩
 ·exact⟨j,k⟩
 ·exact⟨Rat.le_trans f.1 r,Rat.le_trans s e.1⟩
 ·exact⟨Rat.le_trans f.2 r,Rat.le_trans s e.2⟩
 ·exact⟨l,m⟩
theorem zfG {p:Pl} {t:List (Int×Int)} {b pin e:Int} {j:Be} (hp:placedOk p=true) (l:Rise t) (n:t≠[]) (k:pin≤e) (h:bedO p t b pin=some j) :
  ∃be',bedO p t b e=some be'∧be'.num=j.num∧be'.fx≤j.fx∧j.tx≤be'.tx:=by
 obtain⟨q,_,m,_⟩:=zfv hp;obtain⟨ho,f⟩:=zfH h;rw [zbB ho f]at h;have h:=(Option.some.inj h).symm;have hc:(pin:Rat)≤(e:Rat):=Rat.intCast_le_intCast.2 k
 have i:reachNo (btw (lowP2 p) t) e=false:=by
  rw [zcz]at f ⊢;exact⟨f.1,Rat.le_trans f.2 hc⟩
 obtain⟨⟨r,s,D,u⟩,⟨v,w,K,x⟩,c,_⟩:=zdg q l m n ho f;obtain⟨_,_,_,d⟩:=zdg q l m n ho i;have y:=(d _ r s (Rat.le_trans u hc)).1;have z:=(d _ v w (Rat.le_trans x hc)).2;refine⟨_,zbB ho i,?_⟩
 generalize reachO (btw (lowP2 p) t) pin=o at *
 generalize reachO (btw (lowP2 p) t) e=o' at *
 subst h;exact⟨rfl,y,z⟩
def topN (g:List (Int×Int)) (ps:List Pl) (b:Int):List (Int×Int):=if b<0 then g else match ps[b.toNat]? with|some q=>upP2 q|none=>[]
section
variable {g:List (Int×Int)} {ps:List Pl} (hg:Rise g) (ng:g≠[]) (hok:∀p∈ps,placedOk p=true) {a:Nat} {p:Pl} (hp:ps[a]?=some p)
include hg ng hok hp
theorem znx {b pin:Int} {c:Be} (h:bedAt g ps a p pin b=some c) :
  c.num=b∧c.fz=atR (lowP2 p) c.fx∧c.tz=atR (lowP2 p) c.tx∧EndP p (topN g ps b) pin c.fx∧EndP p (topN g ps b) pin c.tx∧c.fx≤c.tx∧(0≤b→∃q,ps[b.toNat]?=some q):=by
 have d:=hok p (lM hp);unfold bedAt at h;unfold topN
 split at h
 ·cases h
 ·split at h
  ·rename_i hb
   rw [if_pos hb];obtain⟨e,f,i,j,k,h6⟩:=zfF d hg ng h;exact⟨e,f,i,j,k,h6,fun n=>by omega⟩
  ·rename_i hb
   rw [if_neg hb]
   cases hq:ps[b.toNat]? with
   | none=>rw [hq]at h;cases h
   | some q =>
    rw [hq]at h;dsimp only at h
    split at h
    ·obtain⟨_,m,_,l⟩:=zfv (hok q (lM hq))
     obtain⟨e,f,i,j,k,h6⟩:=zfF d m l h;exact⟨e,f,i,j,k,h6,fun _=>⟨q,rfl⟩⟩
    ·cases h
theorem zhZ {b pin c:Int} {f:Be} (d:pin≤c) (h:bedAt g ps a p pin b=some f) :
  ∃be',bedAt g ps a p c b=some be'∧be'.num=f.num∧be'.fx≤f.fx∧f.tx≤be'.tx:=by
 have e:=hok p (lM hp);unfold bedAt at h ⊢
 split at h
 ·cases h
 ·rename_i h0
  rw [if_neg h0]
  split at h
  ·rename_i hb
   rw [if_pos hb];exact zfG e hg ng d h
  ·rename_i hb
   rw [if_neg hb]
   cases hq:ps[b.toNat]? with
   | none=>rw [hq]at h;cases h
   | some q =>
    rw [hq]at h;dsimp only at h ⊢
    split at h
    ·rename_i hm
     rw [if_pos hm];obtain⟨_,j,_,i⟩:=zfv (hok q (lM hq));exact zfG e j i d h
    ·cases h
theorem zny {pin b:Int} (c:pin≤b) (n:Nat):(bedsN g ps a p pin n).length≤(bedsN g ps a p b n).length:=by
 induction n with
 | zero =>
  rw [show bedsN g ps a p pin 0=[]from rfl];exact Nat.zero_le _
 | succ n i =>
  rw [zda,zda,lA,lA]
  cases h:bedAt g ps a p pin ((n:Int)-1)with
  | none=>simp;omega
  | some f =>
   obtain⟨d,e,_⟩:=zhZ hg ng hok hp c h;rw [e];simp;omega
end
end
section
open Go.RowKit Go.Shelf Go.Sort
def minG {α:Type} (f:α→Rat):List α→Rat
 | []=>0
 | x::xs=>xs.foldl (fun o y=>if rcmp (f y) o<0 then f y else o) (f x)
theorem zbo {α:Type} (f:α→Rat):∀{l:List α},l≠[]→(∃x∈l,minG f l=f x)∧∀x∈l,minG f l≤f x
 | [],h=>absurd rfl h
 | x::xs,_=>by
  have key:∀(e:List α) (o:Rat),(e.foldl (fun o y=>if rcmp (f y) o<0 then f y else o) o=o∨∃y∈e,e.foldl (fun o y=>if rcmp (f y) o<0 then f y else o) o=f y)∧e.foldl (fun o y=>if rcmp (f y) o<0 then f y else o) o≤o∧∀y∈e,e.foldl (fun o y=>if rcmp (f y) o<0 then f y else o) o≤f y:=by
   intro e
   induction e with
   | nil=>intro o;exact⟨.inl rfl,Rat.le_refl,fun y m=>by cases m⟩
   | cons y e k =>
    intro o;rw [List.foldl_cons]
    by_cases c:rcmp (f y) o<0
    ·rw [if_pos c]
     have hc:=(za0 _ _).1 c;obtain⟨b,i,j⟩:=k (f y);refine⟨.inr ?_,Rat.le_trans i (Rat.le_of_lt hc),fun z d=>?_⟩
     ·rcases b with b|⟨z,d,b⟩
      ·exact⟨y,by simp,b⟩
      ·exact⟨z,mC _ d,b⟩
     ·rcases List.mem_cons.1 d with rfl|d
      ·exact i
      ·exact j z d
    ·rw [if_neg c]
     have hc:o≤f y:=Rat.not_lt.1 fun h=>c ((za0 _ _).2 h)
     obtain⟨b,i,j⟩:=k o;refine⟨?_,i,fun z d=>?_⟩
     ·rcases b with b|⟨z,d,b⟩
      ·exact .inl b
      ·exact .inr ⟨z,mC _ d,b⟩
     ·rcases List.mem_cons.1 d with rfl|d
      ·exact Rat.le_trans i hc
      ·exact j z d
  obtain⟨b,i,j⟩:=key xs (f x);refine⟨?_,fun z d=>?_⟩
  ·rcases b with b|⟨z,d,b⟩
   ·exact⟨x,by simp,b⟩
   ·exact⟨z,mC _ d,b⟩
  ·rcases List.mem_cons.1 d with rfl|d
   ·exact i
   ·exact j z d
theorem zik {α:Type} {f h:α→Rat} {c:Rat} (b:∀x,h x=f x+c) {l:List α} (d:l≠[]):minG h l=minG f l+c:=by
 obtain⟨⟨x,j,e⟩,m⟩:=zbo h d;obtain⟨⟨y,k,i⟩,n⟩:=zbo f d;refine Rat.le_antisymm ?_ ?_
 ·rw [i,←b]
  exact m y k
 ·rw [e,b]
  have:=n x j
  grind
def gapT (l t:List (Int×Int)):Rat:=(leastR (btw l t)).2
def topsP (g:List (Int×Int)) (ps:List Pl) (p:Pl):List (List (Int×Int)):=g::(ps.filter fun o=>meetB p o&&relP p o==3).map upP2
def dropR (g:List (Int×Int)) (ps:List Pl) (p:Pl):Rat:=minG (gapT (lowP2 p)) (topsP g ps p)
theorem zdG {f h:Rat→Rat} {c:Rat} (j:∀x,h x=f x+c) {d:List Rat} (l:d≠[]):bestR h d=((bestR f d).1,(bestR f d).2+c):=by
 cases d with
 | nil=>exact absurd rfl l
 | cons x b =>
  have key:∀(b:List Rat) (u v:Rat),b.foldl (bestStep h) (u,v+c)=((b.foldl (bestStep f) (u,v)).1,(b.foldl (bestStep f) (u,v)).2+c):=by
   intro b
   induction b with
   | nil=>intro u v;rfl
   | cons y n m =>
    intro u v;rw [List.foldl_cons,List.foldl_cons]
    have e:bestStep h (u,v+c) y=((bestStep f (u,v) y).1,(bestStep f (u,v) y).2+c):=by
     unfold bestStep;dsimp only;rw [j]
     have i:rcmp (f y+c) (v+c)<0 ↔ rcmp (f y) v<0:=by
      rw [za0,za0]
      grind
     by_cases q:rcmp (f y) v<0
     ·rw [if_pos q,if_pos (i.2 q)]
     ·rw [if_neg q,if_neg (fun k=>q (i.1 k))]
    rw [e,m]
  show b.foldl (bestStep h) (x,h x)=((b.foldl (bestStep f) (x,f x)).1,(b.foldl (bestStep f) (x,f x)).2+c)
  rw [j];exact key b x (f x)
theorem zl5 (n:Int) (l:List (Int×Int)):(mvL (0,n) l).map (·.1)=l.map (·.1):=by
 unfold mvL;rw [List.map_map];exact List.map_congr_left fun q _=>by unfold mvQ;dsimp only [Function.comp_apply];omega
theorem zgB {l t:List (Int×Int)} (c:l≠[]) (n:Int):gapT (mvL (0,n) l) t=gapT l t+(n:Rat):=by
 have b:=zaX (0,n) c;dsimp only at b;rw [Int.add_zero,Int.add_zero]at b
 have e:stopsR (btw (mvL (0,n) l) t)=stopsR (btw l t):=by
  unfold stopsR stopsZ midP btw;dsimp only;rw [b.1,b.2,List.map_append,List.map_append,zl5];rfl
 have d:∀x,gapR (btw (mvL (0,n) l) t) x=gapR (btw l t) x+(n:Rat):=fun x=>by
  have h:=zg8 (0,n) c x;dsimp only at h;rw [show x+((0:Int):Rat)=x by rw [Rat.intCast_zero,Rat.add_zero]]at h;unfold gapR btw;dsimp only;rw [h]
  grind
 unfold gapT leastR;rw [e,zdG d (zaw _)]
theorem zld {l t:List (Int×Int)} (c:t≠[]) (n:Int):gapT l (mvL (0,n) t)=gapT l t + -(n:Rat):=by
 have b:=zaX (0,n) c;dsimp only at b;rw [Int.add_zero,Int.add_zero]at b
 have e:stopsR (btw l (mvL (0,n) t))=stopsR (btw l t):=by
  unfold stopsR stopsZ midP btw;dsimp only;rw [b.1,b.2,List.map_append,List.map_append,zl5];rfl
 have d:∀x,gapR (btw l (mvL (0,n) t)) x=gapR (btw l t) x + -(n:Rat):=fun x=>by
  have h:=zg8 (0,n) c x;dsimp only at h;rw [show x+((0:Int):Rat)=x by rw [Rat.intCast_zero,Rat.add_zero]]at h;unfold gapR btw;dsimp only;rw [h]
  grind
 unfold gapT leastR;rw [e,zdG d (zaw _)]
theorem zbs {l t:List (Int×Int)} (h:(btw l t).lo<(btw l t).hi):freeB l t=true ↔ 0≤gapT l t:=by
 unfold freeB gapT;rw [if_pos h,decide_eq_true_eq];exact⟨zgV,fun h=>Int.sign_nonneg_iff.2 (Rat.num_nonneg.2 h)⟩
section
variable {p o:Pl} (hp:placedOk p=true) (ho:placedOk o=true)
include hp ho
theorem zfs (c:¬lineR (lowP2 p)≤lineL (lowP2 o)) (d:¬lineR (lowP2 o)≤lineL (lowP2 p)):(btw (lowP2 p) (upP2 o)).lo<(btw (lowP2 p) (upP2 o)).hi:=by
 have a:=zag hp;have b:=zag ho;unfold btw;dsimp only;omega
theorem zek (h:relP p o=3):(btw (lowP2 p) (upP2 o)).lo<(btw (lowP2 p) (upP2 o)).hi∧0≤gapT (lowP2 p) (upP2 o):=by
 unfold relP at h
 split at h
 ·omega
 ·rename_i h1
  split at h
  ·omega
  ·rename_i h2
   have b:=zfs hp ho h1 h2
   split at h
   ·rename_i h3
    exact⟨b,(zbs b).1 h3⟩
   ·split at h<;>omega
theorem zn2 {n:Int} (z:placedOk (mvP (0,-n) p)=true) (P:0≤n) (f:relP p o≠5) (hg:relP p o=3→(n:Rat)≤gapT (lowP2 p) (upP2 o)):relP (mvP (0,-n) p) o=relP p o:=by
 obtain⟨T,W,a3,w,x⟩:=zag hp;obtain⟨b1,b2,b3,b4,b5⟩:=zag ho;have d:=zaX (0,-n) w;dsimp only at d;rw [Int.add_zero,Int.add_zero]at d;have q:=zgB (t:=upP2 o) w (-n);have y:=zld (l:=lowP2 o) x (-n);rw [Rat.intCast_neg]at q y;have Q:(0:Rat)≤(n:Rat):=by exact_mod_cast P
 unfold relP at f hg ⊢;rw [zdn hp z,zlx hp z,d.1,d.2]
 by_cases b:lineR (lowP2 p)≤lineL (lowP2 o)
 ·rw [if_pos b,if_pos b]
 ·by_cases e:lineR (lowP2 o)≤lineL (lowP2 p)
  ·rw [if_neg b,if_pos e,if_neg b,if_pos e]
  ·rw [if_neg b,if_neg e]at f hg ⊢
   rw [if_neg b,if_neg e];have k:(btw (lowP2 p) (upP2 o)).lo<(btw (lowP2 p) (upP2 o)).hi:=zfs hp ho b e;have m:(btw (lowP2 o) (upP2 p)).lo<(btw (lowP2 o) (upP2 p)).hi:=zfs ho hp e b
   have i:(btw (mvL (0,-n) (lowP2 p)) (upP2 o)).lo<(btw (mvL (0,-n) (lowP2 p)) (upP2 o)).hi:=by
    unfold btw at k ⊢;dsimp only at k ⊢;rw [d.1,d.2];exact k
   have v:(btw (lowP2 o) (mvL (0,-n) (upP2 p))).lo<(btw (lowP2 o) (mvL (0,-n) (upP2 p))).hi:=by
    have j:=zaX (0,-n) x;dsimp only at j;rw [Int.add_zero,Int.add_zero]at j;unfold btw at m ⊢;dsimp only at m ⊢;rw [j.1,j.2];exact m
   by_cases r:freeB (lowP2 p) (upP2 o)=true
   ·rw [if_pos r]at hg ⊢
    have K:=hg rfl;have c:freeB (mvL (0,-n) (lowP2 p)) (upP2 o)=true:=(zbs i).2 (by rw [q];grind);rw [if_pos c]
   ·have c:¬freeB (mvL (0,-n) (lowP2 p)) (upP2 o)=true:=fun h=>by
     have D:=(zbs i).1 h;rw [q]at D;exact r ((zbs k).2 (by grind))
    rw [if_neg r]at f ⊢;rw [if_neg c]
    by_cases s:freeB (lowP2 o) (upP2 p)=true
    ·have u:freeB (lowP2 o) (mvL (0,-n) (upP2 p))=true:=(zbs v).2 (by rw [y];have:=(zbs m).1 s;grind)
     rw [if_pos s,if_pos u]
    ·rw [if_neg s]at f
     exact absurd rfl f
end
theorem zfW {g:List (Int×Int)} {p:Pl}:∀{ps done:List Pl},laid1 g done ps=0→addE g (done++ps) p=0→laid1 g done (ps++[p])=0
 | [],done,_,h=>by
  rw [List.append_nil]at h
  show laid1 g done [p]=0
  rw [laid1,if_pos h];rfl
 | q::r,done,h0,h=>by
  rw [List.cons_append];unfold laid1 at h0 ⊢
  by_cases c:addE g done q=0
  ·rw [if_pos c]at h0 ⊢
   exact zfW h0 (by rw [List.append_assoc];exact h)
  ·rw [if_neg c]at h0
   exact absurd h0 c
theorem zfX {g:List (Int×Int)} {p:Pl}:∀{ps done:List Pl},laid2 g done ps=0→clearB g (done++ps) p=true→laid2 g done (ps++[p])=0
 | [],done,_,h=>by
  rw [List.append_nil]at h
  show laid2 g done [p]=0
  rw [laid2,if_pos h];rfl
 | q::r,done,h0,h=>by
  rw [List.cons_append];unfold laid2 at h0 ⊢
  by_cases c:clearB g done q=true
  ·rw [if_pos c]at h0 ⊢
   exact zfX h0 (by rw [List.append_assoc];exact h)
  ·rw [if_neg c]at h0
   cases h0
theorem zjJ {g:List (Int×Int)} {ps:List Pl} {p:Pl} (h:laidP g ps=0) (e:ps.length<120) (hp:placedOk p=true) (hh:holdsB g p=true) (d:ps.any (nameB p.name)=false) (hc:clearB g ps p=true):laidP g (ps++[p])=0:=by
 unfold laidP at h ⊢
 by_cases hg:groundB g=true
 ·rw [if_pos hg]at h ⊢
  rw [if_neg oM]at h;rw [if_neg (by rw [lA,List.length_singleton];omega)]
  by_cases b:laid1 g [] ps=0
  ·rw [if_pos b]at h
   have c:addE g ([]++ps) p=0:=by
    unfold addE;rw [List.nil_append,if_pos hp,if_pos hh,if_neg (by rw [d];decide)]
   rw [if_pos (zfW b c)];exact zfX h (by rw [List.nil_append];exact hc)
  ·rw [if_neg b]at h
   exact absurd h b
 ·rw [if_neg hg]at h
  cases h
def dropP (g:List (Int×Int)) (ps:List Pl) (p:Pl):Int:=(dropR g ps p).floor
set_option linter.unusedSectionVars false
section
variable {g:List (Int×Int)} {ps:List Pl} {p:Pl} (h0:laidP g ps=0) (hp:placedOk p=true) (hh:holdsB g p=true) (hc:clearB g ps p=true)
include h0 hp hh hc
theorem zbR:(btw (lowP2 p) g).lo<(btw (lowP2 p) g).hi:=by
 have a:=zag hp;unfold holdsB at hh;simp only [Bool.and_eq_true,decide_eq_true_eq]at hh;unfold btw;dsimp only;omega
theorem zhz {o:Pl} (ho:o∈ps) (b:meetB p o=true):relP p o≠5:=by
 unfold clearB at hc;rw [Bool.and_eq_true,Bool.not_eq_true',List.any_eq_false]at hc;intro e;refine hc.2 o ho ?_;unfold clashB;rw [b,e];rfl
theorem zgn:∀t∈topsP g ps p,0≤gapT (lowP2 p) t:=by
 intro t c;unfold topsP at c
 rcases List.mem_cons.1 c with rfl|c
 ·refine(zbs (zbR h0 hp hh hc)).1 ?_
  unfold clearB at hc;rw [Bool.and_eq_true]at hc;exact hc.1
 ·obtain⟨o,ho,rfl⟩:=List.mem_map.1 c
  obtain⟨d,b⟩:=List.mem_filter.1 ho;rw [Bool.and_eq_true,beq_iff_eq]at b;exact(zek hp ((zbt h0).1 o d) b.2).2
theorem zja:0≤dropP g ps p:=by
 unfold dropP;rw [Rat.le_floor_iff];obtain⟨⟨t,b,e⟩,_⟩:=zbo (gapT (lowP2 p)) (l:=topsP g ps p) (by unfold topsP;simp);unfold dropR;rw [e,Rat.intCast_zero];exact zgn h0 hp hh hc t b
theorem zkH:∀t∈topsP g ps p,((dropP g ps p:Int):Rat)≤gapT (lowP2 p) t:=fun t b =>
 Rat.le_trans (Rat.floor_le _) ((zbo (gapT (lowP2 p)) (l:=topsP g ps p) (by unfold topsP;simp)).2 t b)
theorem zgZ (f:placedOk (mvP (0,-dropP g ps p) p)=true):topsP g ps (mvP (0,-dropP g ps p) p)=topsP g ps p∧∀o∈ps,meetB p o=true→relP (mvP (0,-dropP g ps p) p) o=relP p o:=by
 have e:=zja h0 hp hh hc;have c:=zkH h0 hp hh hc;obtain⟨n,h⟩:=gX (dropP g ps p);rw [h]at f e c ⊢;have d:∀o,meetB (mvP (0,-n) p) o=meetB p o:=fun o=>rfl
 have key:∀o∈ps,meetB p o=true→relP (mvP (0,-n) p) o=relP p o:=fun o ho b=>by
  refine zn2 hp ((zbt h0).1 o ho) f e (zhz h0 hp hh hc ho b) fun i=>?_
  refine c _ ?_;unfold topsP;refine mC _ (List.mem_map_of_mem (List.mem_filter.2 ⟨ho,?_⟩));rw [b,i];rfl
 refine⟨?_,key⟩;unfold topsP;refine congrArg (fun l:List Pl=>g::l.map upP2) (List.filter_congr fun o ho=>?_);rw [d]
 by_cases b:meetB p o=true
 ·exact congrArg (fun z:Int=>meetB p o&&(z==3)) (key o ho b)
 ·rw [Bool.not_eq_true]at b
  rw [b,Bool.false_and,Bool.false_and]
theorem zeQ (b:placedOk (mvP (0,-dropP g ps p) p)=true):dropP g ps (mvP (0,-dropP g ps p) p)=0∧dropR g ps (mvP (0,-dropP g ps p) p)=dropR g ps p + -((dropP g ps p:Int):Rat):=by
 obtain⟨_,_,_,d,_⟩:=zag hp
 have e:dropR g ps (mvP (0,-dropP g ps p) p)=dropR g ps p+((-dropP g ps p:Int):Rat):=by
  unfold dropR;rw [(zgZ h0 hp hh hc b).1];refine zik (fun t=>?_) (by unfold topsP;simp);rw [zdn hp b,zgB d]
 refine⟨?_,by rw [e,Rat.intCast_neg]⟩;have c:dropP g ps (mvP (0,-dropP g ps p) p)=(dropR g ps (mvP (0,-dropP g ps p) p)).floor:=rfl;rw [c,e,Rat.floor_add_intCast];unfold dropP;omega
theorem zoh (q:placedOk (mvP (0,-dropP g ps p) p)=true):bedsN g (ps++[mvP (0,-dropP g ps p) p]) ps.length (mvP (0,-dropP g ps p) p) 1 (ps.length+2)≠[]:=by
 obtain⟨_,_,_,nl,_⟩:=zag hp;obtain⟨m,s⟩:=gX (mvP (0,-dropP g ps p) p);obtain⟨z,T⟩:=zeQ h0 hp hh hc q;obtain⟨P,Q⟩:=zgZ h0 hp hh hc q;rw [s]at q z T P Q ⊢;have y:∀o,meetB m o=meetB p o:=fun o=>by rw [←s];rfl
 obtain⟨⟨t,n,e⟩,_⟩:=zbo (gapT (lowP2 m)) (l:=topsP g ps m) (by unfold topsP;simp);have j:dropR g ps m=gapT (lowP2 m) t:=e;have D:=Rat.floor_le (dropR g ps m);have hl:=Rat.lt_floor (x:=dropR g ps m);have i:(dropR g ps m).floor=0:=z;rw [i,j]at D;rw [i,j]at hl
 have d:reachNo (btw (lowP2 m) t) 1=false:=by
  rw [zcz];refine⟨?_,?_⟩
  ·have:((0:Int):Rat)≤gapT (lowP2 m) t:=D
   rw [Rat.intCast_zero]at this;exact this
  ·have h:(leastR (btw (lowP2 m) t)).2=gapT (lowP2 m) t:=rfl
   rw [h];have:((1:Int):Rat)=1:=rfl
   grind
 have key:∃b:Int,-1≤b∧b<ps.length∧∃be,bedAt g (ps++[m]) ps.length m 1 b=some be:=by
  rw [P]at n;unfold topsP at n
  rcases List.mem_cons.1 n with W|n
  ·rw [W]at d
   refine⟨-1,by omega,by omega,?_⟩;unfold bedAt;rw [if_neg oM,if_pos oM];refine⟨_,zbB ?_ d⟩;have u:=zbR h0 hp hh hc;have r:=zaX (0,-dropP g ps p) nl;rw [←s,zdn hp (by rw [s];exact q)];dsimp only at r;rw [Int.add_zero,Int.add_zero]at r;unfold btw at u ⊢;dsimp only at u ⊢;rw [r.1,r.2];exact u
  ·obtain⟨o,ho,rfl⟩:=List.mem_map.1 n
   obtain⟨f,c⟩:=List.mem_filter.1 ho;rw [Bool.and_eq_true,beq_iff_eq]at c;obtain⟨k,K,w⟩:=List.getElem_of_mem f;refine⟨(k:Int),by omega,by omega,?_⟩;unfold bedAt;rw [if_neg oM,if_neg oM,Int.toNat_natCast,List.getElem?_append_left K,gE K,w];dsimp only;rw [if_pos (by rw [y];exact c.1)];have h3:relP m o=3:=by rw [Q o f c.1];exact c.2
   exact⟨_,zbB (zek q ((zbt h0).1 o f) h3).1 d⟩
 obtain⟨b,aa,ab,be,v⟩:=key;intro h;unfold bedsN at h;rw [List.filterMap_eq_nil_iff]at h;have:=h (b+1).toNat (List.mem_range.2 oM);rw [show (((b+1).toNat:Nat):Int)-1=b by omega,v]at this
 cases this
theorem znJ (n:ps.length<120) (q:ps.any (nameB p.name)=false) (c:placedOk (mvP (0,-dropP g ps p) p)=true):laidP g (ps++[mvP (0,-dropP g ps p) p])=0∧holdsB g (mvP (0,-dropP g ps p) p)=true∧clearB g ps (mvP (0,-dropP g ps p) p)=true:=by
 obtain⟨_,_,_,k,_⟩:=zag hp;have b:=zaX (0,-dropP g ps p) k;dsimp only at b;rw [Int.add_zero,Int.add_zero]at b
 have l:holdsB g (mvP (0,-dropP g ps p) p)=true:=by
  unfold holdsB at hh ⊢;rw [zdn hp c,b.1,b.2];exact hh
 have m:clearB g ps (mvP (0,-dropP g ps p) p)=true:=by
  have d:=zeQ h0 hp hh hc c;have t:=zgZ h0 hp hh hc c;unfold clearB;rw [Bool.and_eq_true,Bool.not_eq_true',List.any_eq_false];refine⟨?_,fun o ho=>?_⟩
  ·have i:g∈topsP g ps p:=by unfold topsP;simp
   have r:=zkH h0 hp hh hc g i;have j:=zgB (t:=g) k (-dropP g ps p);rw [Rat.intCast_neg]at j;have e:=zbR h0 hp hh hc;rw [zdn hp c];refine(zbs ?_).2 (by rw [j];grind);unfold btw at e ⊢;dsimp only at e ⊢;rw [b.1,b.2];exact e
  ·unfold clashB
   by_cases f:meetB p o=true
   ·rw [t.2 o ho f]
    have:=zhz h0 hp hh hc ho f;rw [Bool.and_eq_true,beq_iff_eq];exact fun h=>this h.2
   ·rw [show meetB (mvP (0,-dropP g ps p) p) o=meetB p o from rfl]
    rw [Bool.and_eq_true];exact fun h=>f h.1
 exact⟨zjJ h0 n c l q m,l,m⟩
end
end
end Go.Proofs.YtodpfeaihohpjaaGreatDoor.Cop
