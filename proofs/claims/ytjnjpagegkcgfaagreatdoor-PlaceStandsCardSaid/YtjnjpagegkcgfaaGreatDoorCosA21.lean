/- Part 22. -/
import Derived.Test.YtjnjpagegkcgfaaGreatDoorCosA20
import Derived.Test.YtjnjpagegkcgfaaGreatDoorCosA07
import Derived.Test.YtjnjpagegkcgfaaGreatDoorCosA17
import Derived.Test.YtjnjpagegkcgfaaGreatDoorCosA18
set_option maxRecDepth 1000000
set_option maxHeartbeats 16000000
set_option linter.unusedSimpArgs false
set_option linter.unusedVariables false
open Go.Value renaming slice->O,int->Y,agg->I,bool->N,tuple->H
open Go.IntKind renaming i64->Z
open Option renaming none->X,some->J
open Go renaming World->M,Value->C
open Go.Obj renaming cells->F
namespace Go.Proofs.YtjnjpagegkcgfaaGreatDoor.Cop
section
open Go.RowKit Go.Shelf Go.Sort Go.Lib
def site0:C:=I #[O X 0 0,O X 0 0]
def RetLo(w:M)(a:C)(g:LP)(ps:List Pl)(e:Ending)(w':M):Prop:=
 (laidP g ps≠0/\e = .returned (H #[site0,Y Z (laidP g ps)])/\Ext w w')\/(laidP g ps=0/\∃vs,e = .returned (H #[I #[a,vs],Y Z 0])/\IsLas w' vs ps/\Ext w w')
def LoC(w:M)(b:Nat)(a c d:C)(W:M):Prop:=
 W.heap[w.heap.size]?=J (F #[a,c] 41 (0,0))/\W.heap[w.heap.size+1]?=J (F #[O X 0 0,O X 0 0] 124 (0,0))/\W.heap[b]?=J (F #[a,d] 124 (0,0))
theorem LoC.ext{w W W':M}{a:Nat}{b c d:C}(h:LoC w a b c d W)(k:Ext W W'):LoC w a b c d W':=⟨k.heapS h.1,k.heapS h.2.1,k.heapS h.2.2⟩
theorem LoC.below{w W W':M}{a:Nat}{b c d:C}(h:LoC w a b c d W)(k:Below (a+1) W W')(i:w.heap.size+1<a):LoC w a b c d W':=by
 obtain⟨e,f,g⟩:=h;exact⟨(k.block _ oM).trans e,(k.block _ oM).trans f,(k.block _ oM).trans g⟩
theorem LoC.put{w W:M}{a:Nat}{b c g:C}(h:LoC w a b c g W)(i:w.heap.size+1<a)(v:C):LoC w a b c v (W.setCell ⟨a,1,X⟩ v):=by
 obtain⟨d,e,f⟩:=h;refine⟨?_,?_,?_⟩
 ·rw[bS _ _ _ _ dO];exact d
 ·rw[bS _ _ _ _ dO];exact e
 ·simp[World.setCell,Array.getElem?_modify,f]
def LoS(w:M)(a:Nat)(d e:C)(g:LP)(ps:List Pl)(c:Nat)(t28:C)(W:M):Prop:=
 ∃(i:Nat)(b:C),i<=ps.length/\t28=Y Z i/\c=ps.length-i/\Ext w W/\a+1<=W.heap.size/\LoC w a d e b W/\OwnLa W (a+1) b (ps.take i)/\laid1 g [] ps=laid1 g (ps.take i) (ps.drop i)/\∀p∈ps.take i,placedOk p=true
def LpS(w:M)(b:Nat)(e f:C)(c:C)(g:LP)(ps:List Pl)(d:Nat)(a:C)(W:M):Prop:=
 ∃i:Nat,i<=ps.length/\a=Y Z i/\d=ps.length-i/\Ext w W/\b+1<=W.heap.size/\LoC w b e f c W/\IsLas W c ps/\laid2 g [] ps=laid2 g (ps.take i) (ps.drop i)
theorem Ext.isPts{w w':M}{v:C}{ps:LP}(h:IsPts w v ps)(k:Ext w w'):IsPts w' v ps:=h.ext' k
theorem zck(w:M)(vg vp:C)(g:LP)(ps:List Pl)(hg:IsPts w vg g)(hp:IsPls w vp ps)(bo:Gw w) :
  Calls Tryz.prog 49 #[I #[vg,vp]] w (RetLo w vg g ps):=by
 have HG:=hd9 (fun(W:M)(hW:Ext w W)=>zhW W vg g (hg.ext' hW));have a8:=hd9 (fun(W:M)(hW:Ext w W)=>hg.ext' hW);have bV:=hd9 (fun(W:M)(hW:Ext w W)=>hp.ext' hW);have bO:=hd9 bo;obtain⟨ga,gn,gc,rfl⟩:=form3 hg;obtain⟨pa,pn,aX,rfl⟩:=form3 hp;have bq:=hp.len;have br:=hp.le;obtain⟨R,hR⟩:=gX (RetLo w (O ga gn gc) g ps);rw[hR];have HR:=hd9 hR;have P:=hd9 bq.symm;have cq:pn<=9223372036854775807:=by unfold maxLen at br;omega
 clear hg hp bo bq br hR;obtain⟨G,hG⟩:=gX (groundB g);have av:=hd9 hG;rw[hG]at HG;clear hG
 cases G with
 | false =>
  have e:laidP g ps=2:=by unfold laidP;rw[av.out];rfl
  have E:=hd9 e;clear e;go_enter Tryz.func49,Tryz.ntmps49
  go_wp2_with(go_at_call 125;(with_reducible refine(HG.out _ ?_).mono ?_);exact eA;rintro e w3 ⟨rfl,aa⟩;obtain⟨aw,aA⟩:=aa.cells;have z3:=aa.size;simp only[wZ]at z3)
  have bw:w.heap.size<w3.heap.size:=oM
  have bx:w.heap.size+1<w3.heap.size:=oM
  refine bR (v:=H #[I #[O X 0 0,O X 0 0],Y Z 2]) (by simp[results,Tryz.results49,go_sem,aw,aA]) rfl ?_;rw[<-HR.out];exact .inl ⟨by rw[E.out];decide,by rw[E.out];rfl,eA⟩
 | true =>
  by_cases hn:120<pn
  ·have e:laidP g ps=5:=by unfold laidP;rw[av.out,if_pos rfl,if_pos (by rw[P.out];exact hn)]
   have E:=hd9 e;have cd:(120:Int)<(pn:Int):=oM
   clear e hn;go_enter Tryz.func49,Tryz.ntmps49
   go_wp2_with(go_at_call 125;(with_reducible refine(HG.out _ ?_).mono ?_);exact eA;rintro e w3 ⟨rfl,aa⟩;obtain⟨aw,aA⟩:=aa.cells;have z3:=aa.size;simp only[wZ]at z3)
   have bw:w.heap.size<w3.heap.size:=oM
   have bx:w.heap.size+1<w3.heap.size:=oM
   refine bR (v:=H #[I #[O X 0 0,O X 0 0],Y Z 5]) (by simp[results,Tryz.results49,go_sem,aw,aA]) rfl ?_;rw[<-HR.out];exact .inl ⟨by rw[E.out];decide,by rw[E.out];rfl,eA⟩
  have e:laidP g ps=if laid1 g [] ps=0 then laid2 g [] ps else laid1 g [] ps:=by unfold laidP;rw[av.out,if_pos rfl,if_neg (by rw[P.out];exact hn)]
  have E:=hd9 e;have cd:¬(120:Int)<(pn:Int):=oM
  clear e;go_enter Tryz.func49,Tryz.ntmps49
  go_wp2_with(go_at_call 125;(with_reducible refine(HG.out _ ?_).mono ?_);exact eA;rintro e w3 ⟨rfl,aa⟩;obtain⟨aw,aA⟩:=aa.cells;have z3:=aa.size;simp only[wZ]at z3;have bw:w.heap.size<w3.heap.size:=oM;have bx:w.heap.size+1<w3.heap.size:=oM)
  obtain⟨a,aQ⟩:=gX w3.heap.size;have bW:=hd9 (show (w3.alloc (F #[O ga gn gc,O X 0 0] 124)).heap.size=a+1 by simp[aQ]);have Hz:=hd9 (show w.heap.size+1<a by omega)
  have D:LoC w a (O ga gn gc) (O pa pn aX) (O X 0 0) (w3.alloc (F #[O ga gn gc,O X 0 0] 124)):=by
   have y:=(eR w3).alloc (F #[O ga gn gc,O X 0 0] 124);refine⟨y.heapS (aa.heapS ?_),y.heapS (aa.heapS (qhA _ _ _ sM)),qhA _ _ _ aQ.symm⟩;rw[zaf,if_neg sM];exact qhA _ _ _ rfl
  have bf:Ext w w3:=eA;rw[aQ]at *;clear aw aA aa
  go_loopg [28] pn (LoS w a (O ga gn gc) (O pa pn aX) g ps)
  case atStart =>
   exact⟨0,_,by omega,rfl,by rw[P.out];rfl,bf.alloc _,by rw[bW.out];omega,D,OwnLa.nil _ _,by simp,fun p h=>by simp at h⟩
  case round =>
   clear D bf;obtain⟨i,vs,hi,rfl,rfl,hx,aR,D,f,r,al⟩:=hrel;rw[P.out]at hi;obtain⟨va,vn,vc,rfl⟩:=f.form3;have HC:=hd9 D;have a7:=hd9 f;have Hx:=hd9 hx;have bU:=hd9 al;have bP:=hd9 r;have k0:=qcB D.2.1 (i:=0) (u:=O X 0 0) rfl;have k1:=qcB D.2.1 (i:=1) (u:=O X 0 0) rfl;have kf:=qfB D.2.1;have m0:=qcB D.2.2 (i:=0) (u:=O ga gn gc) rfl;have m1:=qcB D.2.2 (i:=1) (u:=O va vn vc) rfl;have mf:=qfB D.2.2;have zb:a<wr.heap.size:=oM
   have zw:w.heap.size+1<wr.heap.size:=by have:=Hz.out;omega
   by_cases aG:i<pn
   ·obtain⟨p,hq⟩:∃q,ps[i]?=J q:=⟨ps[i]'(by rw[P.out];omega),by simp[P.out,aG]⟩
    obtain⟨b,o,v,rfl,hb,d1,dk,n⟩:=(bV.out _ hx).at' hq;have aE:=hd9 d1;have ar:=hd9 (fun W (hW:Ext wr W)=>zau W p v (d1.ext' hW) dk);have aM:=hd9 (fun W (hW:Ext wr W) (h:placedOk p=true)=>zaR W p v (d1.ext' hW) h (bO.out.ext (hx.trans hW)));obtain⟨ai,ak,aj,rfl⟩:=form3 d1;have Hq:=hd9 hq;obtain⟨ok,f1⟩:=gX (placedOk p);have F1:=hd9 f1;rw[f1]at ar;have aP:=n 0 (.string p.name) rfl;have bX:=n 1 (O ai ak aj) rfl;have bY:=n 2 (Y Z p.depth) rfl;have bZ:=n 3 (Y Z p.density) rfl;have b0:=n 4 (Y Z p.gx) rfl;have b1:=n 5 (Y Z p.gz) rfl;have b2:=n 6 (Y Z p.way) rfl;have b3:=n 7 (Y Z p.ax) rfl;have b5:=n 8 (Y Z p.az) rfl;have b6:=n 9 (Y .u8 p.skin) rfl;simp only[Nat.add_zero]at aP;have cr:a<wr.heap.size+1:=oM
    have ct:w.heap.size+1<wr.heap.size+1:=oM
    obtain⟨er,hE⟩:=gX (addE g (ps.take i) p);have Q:=hE;unfold addE at Q;unfold plc at ar aM
    cases ok with
    | false =>
     have e:laidP g ps=2:=by
      have h2:addE g (ps.take i) p=2:=by unfold addE;rw[f1];rfl
      have h1:laid1 g [] ps=2:=by rw[r,zcN hq (by rw[h2];decide),h2]
      rw[E.out,h1];rfl
     have E2:=hd9 e;clear e hE Q hq n f1 d1 D r al f E
     go_wp2_with(go_at_call 28;(with_reducible refine(ar.out _ ?_).mono ?_);exact eA;rintro e l ⟨rfl,s⟩;obtain⟨aT,aW⟩:=s.cells;(have z5:=s.size);(try simp only[wZ,qdZ]at z5);(have aY:a<l.heap.size:=oM);(have a3:w.heap.size+1<l.heap.size:=oM);(have a2:w.heap.size+1<l.heap.size+1:=oM);(have aZ:a<l.heap.size+1:=oM);(have a0:wr.heap.size<l.heap.size:=oM);(have a1:wr.heap.size<l.heap.size+1:=oM))
     have X5:Ext wr l:=eA;have K5:=X5.heapS HC.out.2.1;have x0:=qcB K5 (i:=0) (u:=O X 0 0) rfl;have x1:=qcB K5 (i:=1) (u:=O X 0 0) rfl;have xf:=qfB K5;refine bR (v:=H #[I #[O X 0 0,O X 0 0],Y Z 2]) (by simp[results,Tryz.results49,go_sem,x0,x1,xf]) rfl ?_;rw[<-HR.out];exact .inl ⟨by rw[E2.out];decide,by rw[E2.out];rfl,eA⟩
    | true =>
     rw[f1,if_pos rfl]at Q
     have ay:∀q∈ps.take i++[p],placedOk q=true:=fun q hq=>by
      rcases List.mem_append.1 hq with h|h
      ·exact al q h
      ·rw[List.mem_singleton.1 h];exact f1
     have HO:=hd9 (fun W (hW:Ext wr W)=>aM.out W hW f1);have HH:=hd9 (fun(W:M)(hW:Ext wr W)(bv:C)(h2:IsLa W bv p)=>zdE W (O ga gn gc) (O va vn vc) bv g p (a8.out _ (hx.trans hW)) ⟨_,_,_,rfl⟩ h2 (zby av.out) f1);have HN:=hd9 (fun(W:M)(hW:Ext wr W)=>zbv W (O ga gn gc) (O va vn vc) (ps.take i) p.name ⟨_,_,_,rfl⟩ (f.las.ext' hW));obtain⟨bh,f2⟩:=gX (holdsB g p);obtain⟨bn,f3⟩:=gX ((ps.take i).any (nameB p.name));rw[f2]at HH Q;rw[f3]at HN Q;have aO:=hd9 ay;clear ay aM
     cases bh with
     | false =>
      have e:laidP g ps=2:=by
       have h2:addE g (ps.take i) p=2:=by rw[hE,<-Q];rfl
       have h1:laid1 g [] ps=2:=by rw[r,zcN hq (by rw[h2];decide),h2]
       rw[E.out,h1];rfl
      have E2:=hd9 e;clear e hE Q hq n f1 f2 f3 d1 D r al f E
      go_wp2_with(first|(go_at_call 28;(with_reducible refine(ar.out _ ?_).mono ?_);exact eA;rintro e l ⟨rfl,s⟩;obtain⟨aT,aW⟩:=s.cells;(have z5:=s.size);(try simp only[wZ,qdZ]at z5);(have aY:a<l.heap.size:=oM);(have a3:w.heap.size+1<l.heap.size:=oM);(have a2:w.heap.size+1<l.heap.size+1:=oM);(have aZ:a<l.heap.size+1:=oM);(have a0:wr.heap.size<l.heap.size:=oM);(have a1:wr.heap.size<l.heap.size+1:=oM))|(go_at_call 50;(with_reducible refine(HO.out _ ?_).mono ?_);exact eA;rintro e x ⟨vl,vu,rfl,am,an,ao⟩;obtain⟨ab,ae,ac,rfl⟩:=form3 am;obtain⟨af,ah,ag,rfl⟩:=form3 an;obtain⟨bi,bl⟩:=ao.cells;(have z6:=ao.size);(try simp only[wZ,qdZ]at z6);(have bz:a<x.heap.size:=oM);(have bJ:w.heap.size+1<x.heap.size:=oM);(have bH:w.heap.size+1<x.heap.size+1:=oM);(have bB:a<x.heap.size+1:=oM);(have bD:wr.heap.size<x.heap.size:=oM);(have bF:wr.heap.size<x.heap.size+1:=oM);try unfold lac)|(go_at_call 51;(with_reducible refine(HH.out _ ?_ _ ?_).mono ?_);exact eA;(exact⟨_,_,_,rfl,Ext.isPts (w:=wr) aE.out eA,am.ext' eA,an.ext' eA⟩);rintro e L ⟨rfl,ap⟩;obtain⟨bj,bm⟩:=ap.cells;(have z7:=ap.size);(try simp only[wZ,qdZ]at z7);(have bA:a<L.heap.size:=oM);(have bK:w.heap.size+1<L.heap.size:=oM);(have bI:w.heap.size+1<L.heap.size+1:=oM);(have bC:a<L.heap.size+1:=oM);(have bE:wr.heap.size<L.heap.size:=oM);(have bG:wr.heap.size<L.heap.size+1:=oM);(have bL:x.heap.size<L.heap.size:=oM)))
      have X7:Ext wr L:=eA;have K7:=X7.heapS HC.out.2.1;have x0:=qcB K7 (i:=0) (u:=O X 0 0) rfl;have x1:=qcB K7 (i:=1) (u:=O X 0 0) rfl;have xf:=qfB K7;refine bR (v:=H #[I #[O X 0 0,O X 0 0],Y Z 2]) (by simp[results,Tryz.results49,go_sem,x0,x1,xf]) rfl ?_;rw[<-HR.out];exact .inl ⟨by rw[E2.out];decide,by rw[E2.out];rfl,eA⟩
     | true =>
      cases bn with
      | true =>
       have e:laidP g ps=7:=by
        have h2:addE g (ps.take i) p=7:=by rw[hE,<-Q];rfl
        have h1:laid1 g [] ps=7:=by rw[r,zcN hq (by rw[h2];decide),h2]
        rw[E.out,h1];rfl
       have E2:=hd9 e;clear e hE Q hq n f1 f2 f3 d1 D r al f E
       go_wp2_with(first|(go_at_call 28;(with_reducible refine(ar.out _ ?_).mono ?_);exact eA;rintro e l ⟨rfl,s⟩;obtain⟨aT,aW⟩:=s.cells;(have z5:=s.size);(try simp only[wZ,qdZ]at z5);(have aY:a<l.heap.size:=oM);(have a3:w.heap.size+1<l.heap.size:=oM);(have a2:w.heap.size+1<l.heap.size+1:=oM);(have aZ:a<l.heap.size+1:=oM);(have a0:wr.heap.size<l.heap.size:=oM);(have a1:wr.heap.size<l.heap.size+1:=oM))|(go_at_call 50;(with_reducible refine(HO.out _ ?_).mono ?_);exact eA;rintro e x ⟨vl,vu,rfl,am,an,ao⟩;obtain⟨ab,ae,ac,rfl⟩:=form3 am;obtain⟨af,ah,ag,rfl⟩:=form3 an;obtain⟨bi,bl⟩:=ao.cells;(have z6:=ao.size);(try simp only[wZ,qdZ]at z6);(have bz:a<x.heap.size:=oM);(have bJ:w.heap.size+1<x.heap.size:=oM);(have bH:w.heap.size+1<x.heap.size+1:=oM);(have bB:a<x.heap.size+1:=oM);(have bD:wr.heap.size<x.heap.size:=oM);(have bF:wr.heap.size<x.heap.size+1:=oM);try unfold lac)|(go_at_call 51;(with_reducible refine(HH.out _ ?_ _ ?_).mono ?_);exact eA;(exact⟨_,_,_,rfl,Ext.isPts (w:=wr) aE.out eA,am.ext' eA,an.ext' eA⟩);rintro e L ⟨rfl,ap⟩;obtain⟨bj,bm⟩:=ap.cells;(have z7:=ap.size);(try simp only[wZ,qdZ]at z7);(have bA:a<L.heap.size:=oM);(have bK:w.heap.size+1<L.heap.size:=oM);(have bI:w.heap.size+1<L.heap.size+1:=oM);(have bC:a<L.heap.size+1:=oM);(have bE:wr.heap.size<L.heap.size:=oM);(have bG:wr.heap.size<L.heap.size+1:=oM);(have bL:x.heap.size<L.heap.size:=oM))|(go_at_call 52;(with_reducible refine(HN.out _ ?_).mono ?_);exact eA;rintro e w8 ⟨rfl,aD⟩;obtain⟨ca,cc⟩:=aD.cells;(have z8:=aD.size);(try simp only[wZ,qdZ]at z8);(have ce:a<w8.heap.size:=oM);(have cj:w.heap.size+1<w8.heap.size:=oM);(have ci:w.heap.size+1<w8.heap.size+1:=oM);(have cf:a<w8.heap.size+1:=oM);(have cg:wr.heap.size<w8.heap.size:=oM);(have ch:wr.heap.size<w8.heap.size+1:=oM);(have ck:x.heap.size<w8.heap.size:=oM)))
       have X8:Ext wr w8:=eA;have K8:=X8.heapS HC.out.2.1;have x0:=qcB K8 (i:=0) (u:=O X 0 0) rfl;have x1:=qcB K8 (i:=1) (u:=O X 0 0) rfl;have xf:=qfB K8;refine bR (v:=H #[I #[O X 0 0,O X 0 0],Y Z 7]) (by simp[results,Tryz.results49,go_sem,x0,x1,xf]) rfl ?_;rw[<-HR.out];exact .inl ⟨by rw[E2.out];decide,by rw[E2.out];rfl,eA⟩
      | false =>
       have h2:addE g (ps.take i) p=0:=by rw[hE,<-Q];rfl
       have e:=r.trans (zh1 hq h2);have E2:=hd9 e;have bt:ps.take (i+1)=ps.take i++[p]:=zab _ _ _ hq;have ba:=hd9 bt;obtain⟨cs,aV,aU,bk⟩:=f;have a4:=hd9 aV;have bN:=hd9 bk;have bM:=hd9 aU;have bQ:=hd9 (show cs.length<=120 by rw[aU];simp;omega);have bT:=hd9 (fun j (h:(Value.slice va vn vc).ownBlock=J j)=>aV.lt j h);clear e hE Q hq n f1 f2 f3 d1 D r al E h2 bt aV aU bk
       go_wp2_with(first|(go_at_call 28;(with_reducible refine(ar.out _ ?_).mono ?_);exact eA;rintro e l ⟨rfl,s⟩;obtain⟨aT,aW⟩:=s.cells;(have z5:=s.size);(try simp only[wZ,qdZ]at z5);(have aY:a<l.heap.size:=oM);(have a3:w.heap.size+1<l.heap.size:=oM);(have a2:w.heap.size+1<l.heap.size+1:=oM);(have aZ:a<l.heap.size+1:=oM);(have a0:wr.heap.size<l.heap.size:=oM);(have a1:wr.heap.size<l.heap.size+1:=oM))|(go_at_call 50;(with_reducible refine(HO.out _ ?_).mono ?_);exact eA;rintro e x ⟨vl,vu,rfl,am,an,ao⟩;obtain⟨ab,ae,ac,rfl⟩:=form3 am;obtain⟨af,ah,ag,rfl⟩:=form3 an;obtain⟨bi,bl⟩:=ao.cells;(have z6:=ao.size);(try simp only[wZ,qdZ]at z6);(have bz:a<x.heap.size:=oM);(have bJ:w.heap.size+1<x.heap.size:=oM);(have bH:w.heap.size+1<x.heap.size+1:=oM);(have bB:a<x.heap.size+1:=oM);(have bD:wr.heap.size<x.heap.size:=oM);(have bF:wr.heap.size<x.heap.size+1:=oM);try unfold lac)|(go_at_call 51;(with_reducible refine(HH.out _ ?_ _ ?_).mono ?_);exact eA;(exact⟨_,_,_,rfl,Ext.isPts (w:=wr) aE.out eA,am.ext' eA,an.ext' eA⟩);rintro e L ⟨rfl,ap⟩;obtain⟨bj,bm⟩:=ap.cells;(have z7:=ap.size);(try simp only[wZ,qdZ]at z7);(have bA:a<L.heap.size:=oM);(have bK:w.heap.size+1<L.heap.size:=oM);(have bI:w.heap.size+1<L.heap.size+1:=oM);(have bC:a<L.heap.size+1:=oM);(have bE:wr.heap.size<L.heap.size:=oM);(have bG:wr.heap.size<L.heap.size+1:=oM);(have bL:x.heap.size<L.heap.size:=oM))|(go_at_call 52;(with_reducible refine(HN.out _ ?_).mono ?_);exact eA;rintro e w8 ⟨rfl,aD⟩;obtain⟨ca,cc⟩:=aD.cells;(have z8:=aD.size);(try simp only[wZ,qdZ]at z8);(have ce:a<w8.heap.size:=oM);(have cj:w.heap.size+1<w8.heap.size:=oM);(have ci:w.heap.size+1<w8.heap.size+1:=oM);(have cf:a<w8.heap.size+1:=oM);(have cg:wr.heap.size<w8.heap.size:=oM);(have ch:wr.heap.size<w8.heap.size+1:=oM);(have ck:x.heap.size<w8.heap.size:=oM))|(at_builtin;refine appC (T:=128) (t:=122) (z:=I la0) (k:=12) (bytes:=152) (base:=a+1) (v:=O va vn vc) (cs:=cs) (m:=1) (c:=1) (ad:=⟨w8.heap.size,0,X⟩) zm9 rfl dM dM Tryz.underlying122 rfl _ _ rfl rfl (a4.out.ext eA) rfl [(lac p (O ai ak aj) (O ab ae ac) (O af ah ag)).toList] rfl (by simp[lac]) (by exact zeW w8 (lac p (O ai ak aj) (O ab ae ac) (O af ah ag)) 128) (by simp[lac,Value.oneCell']) (by have:=bQ.out;omega) (by simp only[wZ];omega) ?_;intro v' w9 aC aq cn;obtain⟨a9,n9,c9,rfl⟩:=aC.form3;(have au:Ext wr (w8.alloc (F (lac p (O ai ak aj) (O ab ae ac) (O af ah ag)) 128)):=eA);(have hK:=au.heapS HC.out.2.2);(have hM:w9.heap[a]?=J (F #[O ga gn gc,O va vn vc] 124 (0,0)):=zah aq hK (fun e=>by have:=(bT.out _ e.symm).1;omega));(have n1:=qcB hM (i:=1) (u:=O va vn vc) rfl);(have nf:=qfB hM)))
       go_roundg (pn-(i+1))
       case measure=>have:=P.out;omega
       case rel =>
        have be:=a4.out.ext au;have bg:a+1<=(w8.alloc (F (lac p (O ai ak aj) (O ab ae ac) (O af ah ag)) 128)).heap.size:=by simp only[wZ];omega
        have aS:=zad (base:=a+1) aq bg (fun k hk=>(be.lt k hk).1);have aF:=be.keepT (T':=43) dM aq;have b9:Ext w (w8.alloc (F (lac p (O ai ak aj) (O ab ae ac) (O af ah ag)) 128)):=Hx.out.trans au;have hz:=Hz.out;have b8:Ext w w9:=b9.thenB aS oM;have b7:LoC w a _ _ _ w9:=(HC.out.ext au).below aS hz;have aK:Ext x (w8.alloc (F (lac p (O ai ak aj) (O ab ae ac) (O af ah ag)) 128)):=eA;have bc:OwnLa w9 (a+1) (O a9 n9 c9) (ps.take i++[p]):=OwnLa.app aC bM.out bN.out (au.keep.trans aF) ⟨_,_,_,rfl,((aE.out.ext' au).keep' aF),((am.ext' aK).keep' aF),((an.ext' aK).keep' aF)⟩;refine⟨i+1,O a9 n9 c9,by rw[P.out];omega,by go_num,by rw[P.out],b8.set dO _,by rw[qcZ];exact nT bg aS.size,b7.put hz _,?_,E2.out,by rw[ba.out];exact aO.out⟩;rw[ba.out];exact bc.setOther (fun e=>by have:=(bc.lt _ e).1;dsimp only at this;omega) (fun cs fr h=>by rw[hM]at h;cases h) _
   ·obtain rfl:i=pn:=oM
    have e1:ps.take i=ps:=lT (by rw[P.out];exact nE _);have e2:ps.drop i=[]:=List.drop_of_length_le (by rw[P.out];exact nE _);rw[e1]at al f r;rw[e2,show laid1 g ps []=0 from rfl]at r;have hE:=E.out;rw[if_pos r]at hE;have E3:=hd9 hE;have aI:=hd9 al;have d:=f.las;have aJ:=d.len;rw[P.out]at aJ;subst aJ;have aH:=d.le;rw[P.out]at aH;have co:vn<=vc:=aH.1;have cp:vc<=9223372036854775807:=by have:=aH.2;unfold maxLen at this;omega
    clear e1 e2 r hE f a7 bU bP E al aH;go_wp2
    go_loopg [59] vn (LpS w a (O ga gn gc) (O pa vn aX) (O va vn vc) g ps)
    case atStart=>exact⟨0,by omega,rfl,by rw[P.out];rfl,Hx.out,by omega,HC.out,d,by simp⟩
    case round =>
     clear d D HC Hx hx k0 k1 kf m0 m1 mf aR zb zw aG hi;obtain⟨i,hi,rfl,rfl,hx,aR,D,d,aB⟩:=hrel;rw[P.out]at hi;have HC:=hd9 D;have Hx:=hd9 hx;have k0:=qcB D.2.1 (i:=0) (u:=O X 0 0) rfl;have k1:=qcB D.2.1 (i:=1) (u:=O X 0 0) rfl;have kf:=qfB D.2.1;have m0:=qcB D.2.2 (i:=0) (u:=O ga gn gc) rfl;have m1:=qcB D.2.2 (i:=1) (u:=O va vn vc) rfl;have mf:=qfB D.2.2;have zb:a<wr.heap.size:=oM
     have zw:w.heap.size+1<wr.heap.size:=by have:=Hz.out;omega
     by_cases aG:i<vn
     ·obtain⟨p,hq⟩:∃q,ps[i]?=J q:=⟨ps[i]'(by rw[P.out];omega),by simp[P.out,aG]⟩
      obtain⟨b,o,s1,l1,u1,rfl,hb,d1,d2,d3,n⟩:=d.at' hq;have bu:IsLas wr (O (J ⟨b,o,X⟩) i vc) (ps.take i):=d.take (by rw[P.out];omega) (by rw[P.out];omega) oM (nE _);have bp:=aI.out p (lM hq);have aL:=hd9 (fun W (hW:Ext wr W)=>zdq W (O ga gn gc) (O (J ⟨b,o,X⟩) i vc) (I (lac p s1 l1 u1)) g (ps.take i) p (a8.out _ (hx.trans hW)) (bu.ext' hW) ⟨_,_,_,rfl,d1.ext' hW,d2.ext' hW,d3.ext' hW⟩ (zby av.out) (fun q h=>aI.out q (List.mem_of_mem_take h)) bp);obtain⟨ai,ak,aj,rfl⟩:=form3 d1;obtain⟨ab,ae,ac,rfl⟩:=form3 d2;obtain⟨af,ah,ag,rfl⟩:=form3 d3;obtain⟨cb,f1⟩:=gX (clearB g (ps.take i) p);rw[f1]at aL;unfold lac at aL;have aP:=n 0 (.string p.name) rfl;have bX:=n 1 (O ai ak aj) rfl;have bY:=n 2 (Y Z p.depth) rfl;have bZ:=n 3 (Y Z p.density) rfl;have b0:=n 4 (Y Z p.gx) rfl;have b1:=n 5 (Y Z p.gz) rfl;have b2:=n 6 (Y Z p.way) rfl;have b3:=n 7 (Y Z p.ax) rfl;have b5:=n 8 (Y Z p.az) rfl;have b6:=n 9 (Y .u8 p.skin) rfl;have cl:=n 10 (O ab ae ac) rfl;have cm:=n 11 (O af ah ag) rfl;simp only[Nat.add_zero]at aP;have Hq:=hd9 hq;have a5:=hd9 aB;have F1:=hd9 f1;have a6:=hd9 d;have p0:(0:Int)<=(i:Int):=oM
      have p1:(i:Int)<=(vc:Int):=oM
      have p2:i<=vc:=oM
      clear n hq aB f1 d bu bp d1 d2 d3 D hx;go_wp2;refine wp_region_held_drew (S:=CellL [(⟨a,0,X⟩,O ga gn gc),(⟨a,1,X⟩,O (J ⟨b,o,X⟩) vn vc),(⟨wr.heap.size,0,X⟩,.string p.name),(⟨wr.heap.size,1,X⟩,O ai ak aj),(⟨wr.heap.size,2,X⟩,Y Z p.depth),(⟨wr.heap.size,3,X⟩,Y Z p.density),(⟨wr.heap.size,4,X⟩,Y Z p.gx),(⟨wr.heap.size,5,X⟩,Y Z p.gz),(⟨wr.heap.size,6,X⟩,Y Z p.way),(⟨wr.heap.size,7,X⟩,Y Z p.ax),(⟨wr.heap.size,8,X⟩,Y Z p.az),(⟨wr.heap.size,9,X⟩,Y .u8 p.skin),(⟨wr.heap.size,10,X⟩,O ab ae ac),(⟨wr.heap.size,11,X⟩,O af ah ag)]) kM cA (fun bb=>?_);refine sN 0 ?_
      iterate 8
       refine tkn ?_
      refine oN ?_;refine cl1 (i:=8) fun K hK=>?_
      go_simp
      (with_reducible refine cM (aL.out _ eA) ?_)
      rintro e l ⟨rfl,s⟩
      skip
      go_wp2_with fail
      refine kO hK (cE bb s) (fun bb=>?_);clear hK K;refine tk1 (i:=9) ?_;refine wpAnyH_done kM ?_ _;have X5:Ext wr l:=eA;have K5:=X5.heapS HC.out.2.1;have y0:=qcB K5 (i:=0) (u:=O X 0 0) rfl;have y1:=qcB K5 (i:=1) (u:=O X 0 0) rfl;have yf:=qfB K5
      cases cb with
      | false =>
       have e:laidP g ps=12:=by rw[E3.out,a5.out,zh3 Hq.out F1.out]
       have E2:=hd9 e;clear e;have hx:=Hx.out;go_wp2;have X5:Ext wr l:=eA;have K5:=X5.heapS HC.out.2.1;have x0:=qcB K5 (i:=0) (u:=O X 0 0) rfl;have x1:=qcB K5 (i:=1) (u:=O X 0 0) rfl;have xf:=qfB K5;refine bR (v:=H #[I #[O X 0 0,O X 0 0],Y Z 12]) (by simp[results,Tryz.results49,go_sem,x0,x1,xf]) rfl ?_;rw[<-HR.out];exact .inl ⟨by rw[E2.out];decide,by rw[E2.out];rfl,eA⟩
      | true =>
       go_wp2
       go_roundg (vn-(i+1))
       case measure=>have:=P.out;omega
       case rel=>exact⟨i+1,by rw[P.out];omega,by go_num,by rw[P.out],Hx.out.trans X5,nT aR X5.size,HC.out.ext X5,a6.out.ext' X5,a5.out.trans (zh2 Hq.out F1.out)⟩
     ·obtain rfl:i=vn:=oM
      have e2:ps.drop i=[]:=List.drop_of_length_le (by rw[P.out];exact nE _);rw[e2]at aB;have e:laidP g ps=0:=by rw[E3.out,aB];cases ps.take i<;>rfl
      have E2:=hd9 e;have bs:w.heap.size+1≠a:=by have:=Hz.out;omega
      clear e e2 aB D;go_wp2;refine bR (v:=H #[I #[O ga gn gc,O va i vc],Y Z 0]) (by simp[results,Tryz.results49,go_sem,k0,k1,kf,m0,m1,bs]) rfl ?_;rw[<-HR.out]
      have hN:∀T,T≠124->NoT T wr (w.heap.size+1):=fun T hT cs fr h=>by
       rw[HC.out.2.1]at h
       cases h
       exact hT rfl
      have hK:∀T u u',T≠124->KeepT T wr ((wr.setCell ⟨w.heap.size+1,0,X⟩ u).setCell ⟨w.heap.size+1,1,X⟩ u'):=fun T u u' hT=>((KeepT.refl _ wr).setN (hN T hT) _).setN ((hN T hT).set _ _) _
      exact .inr ⟨E2.out,_,rfl,Sl.keep d (fun _ _ h=>PLa.keep h (hK _ _ _ dM)) (hK _ _ _ dM),(Hx.out.set dO _).set dO _⟩
end
section
open Go.RowKit Go.Shelf
attribute [local go_sem] Oper.semAt_some
theorem zid(w:M)(v:C)(q:Rat)(h:IsR w v q)(hl:Rb limT q)(h0:0<=q.num) :
  Calls Tryz.prog 60 #[v] w (RetZ w q.floor):=by
 obtain⟨a,m,c,s,a2,m2,c2,rfl⟩:=h.form;rw[Rat.floor_def];have HB:=hd9 (fun(W:M)(hW:Ext w W)=>zaH W _ q (h.ext hW) (hl.mono dM));have HQ:=hd9 (fun(W:M)(hW:Ext w W)(v:C)(hv:IsZ W v (q.den:Int))=>zfb W (I #[O a m c,N s]) v q.num (q.den:Int) (h.top.ext hW) hv (hl.1.mono dM) (hl.2.mono dM) (by have:=q.den_pos;omega) (.inl h0));clear h hl h0;go_enter Tryz.func60,Tryz.ntmps60
 go_upto_region 1 with fail
 obtain⟨W0,b⟩:=gX ((w.alloc (F #[O a m c,N s,O a2 m2 c2] 63)).alloc (F #[O X 0 0,N false] 61));have X0:Ext w W0:=by rw[<-b];exact((eR w).alloc _).alloc _
 have kr:W0.heap[w.heap.size+1]?=J (F #[O X 0 0,N false] 61 (0,0)):=by rw[<-b];exact qhA _ _ _ sM
 have C0:CellL [(⟨w.heap.size,0,X⟩,O a m c),(⟨w.heap.size,1,X⟩,N s),(⟨w.heap.size,2,X⟩,O a2 m2 c2)] W0.drew:=by
  rw[<-b];clear b;refine⟨?_,?_,?_,trivial⟩<;>go_simp
 rw[b];clear b;refine zcq [(9,3,F #[O X 0 0,N false] 61 (0,0)),(10,4,F #[O X 0 0,N false] 61 (0,0))] _ 12 3 (fun i=>decide (10<i)) (fun i=>i==7 || i==8) kM kM kM sM kM (by intro x hx;simp only[List.mem_cons,List.not_mem_nil,or_false]at hx;rcases hx with rfl|rfl<;>exact⟨_,rfl,rfl,fun a W=>by go_simp⟩) (fun _ _ d _ _ h=>by cases d<;>exact h) C0 (fun o=>?_);refine tf1 (i:=0) ?_;refine tf1 (i:=1) ?_;refine tf1 (i:=2) ?_;refine cf1 (i:=3) fun W3 j ab r K g=>?_
 go_simp
 (with_reducible refine cM (HB.out W3 (X0.drew.trans j)) ?_)
 rintro e w3 ⟨v3,rfl,y,D⟩;obtain⟨a3,m3,c3,s3,rfl⟩:=y.form
 go_wp2_with fail
 refine kO g (.of ab D) (fun _ _=>?_);clear g K r;refine cf1 (i:=4) fun W4 k ac r K g=>?_
 go_simp
 (with_reducible refine cM (HQ.out W4 (X0.drew.trans (j.trans (D.trans k))) _ (y.ext k)) ?_)
 rintro e w4 ⟨v4,v5,rfl,z,ad,ae⟩;obtain⟨⟨P,R,Q,T,rfl⟩,a5,m5,c5,s5,rfl⟩:=And.intro z.form ad.form
 go_wp2_with fail
 refine kO g (.of ac ae) (fun _ _=>?_);clear g K r;refine tf1 (i:=5) ?_;refine tf1 (i:=6) ?_;refine tf1 (i:=7) ?_;refine tf1 (i:=8) ?_;refine df kM (fun W5 n l=>?_);intro b5 q5 y5 _ _ b6 q6 y6 L _;have L:b6≠b5:=by simpa using L
 have X5:Ext W0 W5:=(eR W0).drew.trans l;have h4:=z.ext n;have zk:=zaa kr;have af:W0.heap.size<=b5:=by simpa using y5
 have ag:W0.heap.size<=b6:=by simpa using y6
 have xf:=qfB q5;have yf:=qfB q6;have x0:=qcB q5 (i:=0) (u:=O X 0 0) rfl;have x1:=qcB q5 (i:=1) (u:=N false) rfl;have u0:=qcB q6 (i:=0) (u:=O X 0 0) rfl;have u1:=qcB q6 (i:=1) (u:=N false) rfl;clear j D k ae n y z ad;refine cl1 (i:=11) fun K g=>?_
 go_simp;refine kO g (cE o (by(repeat refine Ext.set ?_ (by first|exact y5|exact y6) _);exact l)) (fun aa=>?_);clear g K;refine cl1 (i:=12) fun K g=>?_
 go_simp;refine kO g (cE o (by(repeat refine Ext.set ?_ (by first|exact y5|exact y6) _);exact l)) (fun aa=>?_);clear g K;refine tk1 (i:=13) ?_;refine wpAnyH_done kM ?_ _;clear x0 x1 u0 u1 xf yf;obtain⟨W6,t⟩:=gX (stL (stL W5 b5 0 [O P R Q,N T]) b6 0 [O a5 m5 c5,N s5]);have e6:(((W5.setCell ⟨b5,0,X⟩ (O P R Q)).setCell ⟨b5,1,X⟩ (N T)).setCell ⟨b6,0,X⟩ (O a5 m5 c5)).setCell ⟨b6,1,X⟩ (N s5)=W6:=t;rw[e6];have TB:=zky (cs:=[O X 0 0,N false]) (ds:=[O X 0 0,N false]) [O P R Q,N T] [O a5 m5 c5,N s5] q5 q6 L rfl rfl;rw[t]at TB;obtain⟨K5,K6,tb,tk,te⟩:=TB;have X6:=te W0 X5 af ag;have h6:=h4.keep (tk 2 dM dM);have f:=X6.heapS kr;have zr:=zaa f;have z5:=zaa K5;have c0:=qcB K5 (i:=0) (u:=O P R Q) rfl;have c1:=qcB K5 (i:=1) (u:=N T) rfl;have r0:=qcB f (i:=0) (u:=O X 0 0) rfl;have r1:=qcB f (i:=1) (u:=N false) rfl;have rf:=qfB f
 have kp:KeepT 2 W6 ((W6.setCell ⟨w.heap.size+1,0,X⟩ (O P R Q)).setCell ⟨w.heap.size+1,1,X⟩ (N T)):=by
  have hn:NoT 2 W6 (w.heap.size+1):=by intro cs fr e;rw[f]at e;cases e
  exact((KeepT.refl _ W6).setN hn _).setN (hn.set _ _) _
 clear t e6 tb tk te h4 X5 q5 q6 f K5 K6 kr l aa o C0;go_wp2;exact bR (v:=I #[O P R Q,N T]) (by simp[results,Tryz.results60,go_sem,zr,r0,r1,rf]) rfl ⟨_,rfl,h6.keep kp,((X0.trans X6).set (p:=⟨w.heap.size+1,0,X⟩) (Nat.le_succ _) _).set (p:=⟨w.heap.size+1,1,X⟩) (Nat.le_succ _) _⟩
theorem zet(w:M)(n d:Int)(u : -9223372036854775808<=n)(x:n<=9223372036854775807)(y : -9223372036854775808<=d)(z:d<=9223372036854775807)(D:d≠0) :
  Calls Tryz.prog 74 #[Y Z n,Y Z d] w (RetQr w (Rat.divInt n d)):=by
 have k:Hid (Lm limE n):=hd9 (Lm.mono (j:=3) (by unfold Lm B;omega) dM);have l:Hid (Lm limE d):=hd9 (Lm.mono (j:=3) (by unfold Lm B;omega) dM);obtain⟨q,r⟩:=gX (Rat.divInt n d);rw[r];have L:=hd9 r;have K:=hd9 D;have g:=hd9 (fun W=>zbm W n u x);have i:=hd9 (fun W=>zbm W d y z);clear r D u x y z;go_enter Tryz.func74,Tryz.ntmps74
 go_wp2_with(first|(go_at_call 146;(with_reducible refine(zeK _ (I #[Y Z s1,O a1 m1 c1]) (I #[Y Z s2,O a2 m2 c2]) n d (hr1.ext hx2) hr2 k.out l.out K.out).mono ?_);rw[L.out];rintro e w3 ⟨r3,rfl,a,t⟩;obtain⟨s3,P,m3,R,s4,Q,m4,T,rfl⟩:=a.form;obtain⟨⟨p,ac⟩,f⟩:=cK1 w t)|(go_at_call 96;(with_reducible refine(i.out w1).mono ?_);rintro e w2 ⟨r2,rfl,hr2,hx2⟩;obtain⟨s2,a2,m2,c2,rfl,-⟩:=hr2.form2;obtain⟨⟨o,ab⟩,c⟩:=cK1 w hx2)|(go_at_call 96;(with_reducible refine(g.out (w.alloc _)).mono ?_);rintro e w1 ⟨r1,rfl,hr1,s⟩;obtain⟨s1,a1,m1,c1,rfl,-⟩:=hr1.form2;obtain⟨⟨m,aa⟩,b⟩:=cK1 w s))
 exact bR (v:=I #[Y Z s3,O P m3 R,Y Z s4,O Q m4 T]) (by simp[results,Tryz.results74,go_sem,m,o,p,b,c,f]) rfl ⟨_,rfl,a.keep kA,eA⟩
theorem zn4(w:M)(x:C)(p:Rat)(j:IsQ w x p):Calls Tryz.prog 170 #[x] w (RetQr w (-p)):=by
 obtain⟨s,a,m,c,t,o,u,r,rfl⟩:=j.form;have n:=j.top;go_enter Tryz.func170,Tryz.ntmps170;go_wp2
 go_region_held3 (fun W=>W.cell? ⟨w.heap.size,0,X⟩=J (Y Z s)/\W.cell? ⟨w.heap.size,1,X⟩=J (O a m c)/\W.cell? ⟨w.heap.size,2,X⟩=J (Y Z t)/\W.cell? ⟨w.heap.size,3,X⟩=J (O o u r)) ((repeat' (with_reducible refine And.intro ?_ ?_))<;>(first|(go_simp;done)|(refine hx1.cellS ?_;go_simp;done))) (first|(go_at_call 193;(with_reducible refine(zcw _ (I #[Y Z s,O a m c]) p.num ?_).mono ?_);(refine n.ext ?_;exact eA);rintro e w1 ⟨r1,rfl,b,hx1⟩;obtain⟨s1,D,T,L,rfl,-⟩:=b.form2;obtain⟨⟨k,Q⟩,y,g⟩:=cK2 w hx1)|(go_at_call 81;(with_reducible refine(zaU _ (I #[Y Z s,O a m c,Y Z t,O o u r]) p ?_).mono ?_);(refine j.ext ?_;exact eA);rintro e w3 ⟨r3,rfl,d,f⟩;obtain⟨s3,K,m3,P,rfl,-⟩:=d.form2;obtain⟨⟨l,R⟩,z,i⟩:=cK2 w f))
 all_goals go_wp2
 exact bR (v:=I #[Y Z s1,O D T L,Y Z s3,O K m3 P]) (by simp[results,Tryz.results170,go_sem,k,l,g,i]) rfl ⟨_,rfl,IsQ.keep (IsQ.mk (q:=-p) (b.ext f) d) kA,eA⟩
theorem zi4(w:M)(va vb:C)(p q:Rat)(P:IsQ w va p)(Q:IsQ w vb q)(b:Rb limQ p)(d:Rb limQ q) :
  Calls Tryz.prog 22 #[va,vb] w fun e w'=>e = .returned (Y Z (rcmp p q))/\Ext w w':=by
 obtain⟨s,a,m,c,t,ea,em,ec,rfl⟩:=P.form;obtain⟨s',K,m',L,t',i,k,j,rfl⟩:=Q.form;have ao:=hd9 b;have ap:=hd9 d;have R:=P.top;have T:=Q.top;have u:Hid (Lm limG p.num):=hd9 (b.1.mono dM);have v:Hid (Lm limG q.num):=hd9 (d.1.mono dM);have x:Hid (Lm limG (p.den:Int)):=hd9 (b.2.mono dM);have y:Hid (Lm limG (q.den:Int)):=hd9 (d.2.mono dM);have z:Hid (Lm limE (p.num*q.den)):=hd9 ((b.1.mul d.2).mono dM);have D:Hid (Lm limE (q.num*p.den)):=hd9 ((d.1.mul b.2).mono dM);have aq:Hid (Lm limE (p.num*q.num)):=hd9 ((b.1.mul d.1).mono dM);have ar:Hid (Lm limE ((p.den:Int)*q.den)):=hd9 ((b.2.mul d.2).mono dM);have au:Hid (Lm limE ((p.den:Int)*q.num)):=hd9 ((b.2.mul d.1).mono dM);have f:Hid (Lm limG (p.num*q.den)):=hd9 (z.out.mono dM);have g:Hid (Lm limG (q.num*p.den)):=hd9 (D.out.mono dM);have av:Hid (Lm limE (p.num*q.den+q.num*p.den)):=hd9 (((b.1.mul d.2).add (d.1.mul b.2)).mono dM);clear b d;go_enter Tryz.func22,Tryz.ntmps22;go_wp2
 go_region_held3 (fun W=>W.cell? ⟨w.heap.size,0,X⟩=J (Y Z s)/\W.cell? ⟨w.heap.size,1,X⟩=J (O a m c)/\W.cell? ⟨w.heap.size,2,X⟩=J (Y Z t)/\W.cell? ⟨w.heap.size,3,X⟩=J (O ea em ec)/\W.cell? ⟨w.heap.size+1,0,X⟩=J (Y Z s')/\W.cell? ⟨w.heap.size+1,1,X⟩=J (O K m' L)/\W.cell? ⟨w.heap.size+1,2,X⟩=J (Y Z t')/\W.cell? ⟨w.heap.size+1,3,X⟩=J (O i k j)) ((repeat' (with_reducible refine And.intro ?_ ?_))<;>(first|(go_simp;done)|(refine hx1.cellS ?_;go_simp;done))) (first|(go_at_call 81;(with_reducible refine(zaU _ (I #[Y Z s',O K m' L,Y Z t',O i k j]) q ?_).mono ?_);(refine Q.ext ?_;exact eA);rintro e w1 ⟨r1,rfl,l,hx1⟩;obtain⟨s1,a1,m1,c1,rfl,-⟩:=l.form2;obtain⟨⟨aw,aB⟩,ae,af⟩:=cK2 w hx1)|(go_at_call 81;(with_reducible refine(zaU _ (I #[Y Z s,O a m c,Y Z t,O ea em ec]) p ?_).mono ?_);(refine P.ext ?_;exact eA);rintro e w3 ⟨r3,rfl,o,ab⟩;obtain⟨s3,a3,m3,c3,rfl,-⟩:=o.form2;obtain⟨⟨ay,aD⟩,ai,aj⟩:=cK2 w ab)|(go_at_call 80;(with_reducible refine(zbD _ (I #[Y Z s,O a m c]) (I #[Y Z s1,O a1 m1 c1]) p.num (q.den:Int) ?_ ?_ u.out y.out).mono ?_);(refine R.ext ?_;exact eA);(refine l.ext ?_;exact eA);rintro e w2 ⟨r2,rfl,n,aa⟩;obtain⟨s2,a2,m2,c2,rfl,-⟩:=n.form2;obtain⟨⟨ax,aC⟩,ag,ah⟩:=cK2 w aa)|(go_at_call 80;(with_reducible refine(zbD _ (I #[Y Z s',O K m' L]) (I #[Y Z s3,O a3 m3 c3]) q.num (p.den:Int) ?_ ?_ v.out x.out).mono ?_);(refine T.ext ?_;exact eA);(refine o.ext ?_;exact eA);rintro e w4 ⟨r4,rfl,r,ac⟩;obtain⟨s4,a4,m4,c4,rfl,-⟩:=r.form2;obtain⟨⟨az,aE⟩,ak,al⟩:=cK2 w ac)|(go_at_call 79;(with_reducible refine(zgW _ (I #[Y Z s2,O a2 m2 c2]) (I #[Y Z s4,O a4 m4 c4]) (p.num*q.den) (q.num*p.den) ?_ ?_ f.out g.out).mono ?_);(refine n.ext ?_;exact eA);(refine r.ext ?_;exact eA);rintro e w5 ⟨rfl,ad⟩;obtain⟨⟨aA,aF⟩,am,an⟩:=cK2 w ad))
 all_goals go_wp2
 go_ret;exact⟨rfl,eA⟩
theorem zme(w:M)(va vb:C)(p q:Rat)(ha:IsQ w va p)(hb:IsQ w vb q)(b:Rb limQ p)(d:Rb limQ q) :
  Calls Tryz.prog 100 #[va,vb] w (RetQr w (p+q)):=by
 obtain⟨s,a,m,c,t,ea,em,ec,rfl⟩:=ha.form;obtain⟨s',a',m',c',t',f,i,g,rfl⟩:=hb.form;have aZ:=hd9 b;have a0:=hd9 d;have aw:=ha.top;have ax:=hb.top;have af:Hid (Lm limG p.num):=hd9 (b.1.mono dM);have ag:Hid (Lm limG q.num):=hd9 (d.1.mono dM);have j:Hid (Lm limG (p.den:Int)):=hd9 (b.2.mono dM);have k:Hid (Lm limG (q.den:Int)):=hd9 (d.2.mono dM);have ah:Hid (Lm limE (p.num*q.den)):=hd9 ((b.1.mul d.2).mono dM);have ai:Hid (Lm limE (q.num*p.den)):=hd9 ((d.1.mul b.2).mono dM);have ba:Hid (Lm limE (p.num*q.num)):=hd9 ((b.1.mul d.1).mono dM);have aj:Hid (Lm limE ((p.den:Int)*q.den)):=hd9 ((b.2.mul d.2).mono dM);have bb:Hid (Lm limE ((p.den:Int)*q.num)):=hd9 ((b.2.mul d.1).mono dM);have l:Hid (Lm limG (p.num*q.den)):=hd9 (ah.out.mono dM);have n:Hid (Lm limG (q.num*p.den)):=hd9 (ai.out.mono dM);have ak:Hid (Lm limE (p.num*q.den+q.num*p.den)):=hd9 (((b.1.mul d.2).add (d.1.mul b.2)).mono dM);clear b d;go_enter Tryz.func100,Tryz.ntmps100;go_wp2
 go_region_held3 (fun W=>W.cell? ⟨w.heap.size,0,X⟩=J (Y Z s)/\W.cell? ⟨w.heap.size,1,X⟩=J (O a m c)/\W.cell? ⟨w.heap.size,2,X⟩=J (Y Z t)/\W.cell? ⟨w.heap.size,3,X⟩=J (O ea em ec)/\W.cell? ⟨w.heap.size+1,0,X⟩=J (Y Z s')/\W.cell? ⟨w.heap.size+1,1,X⟩=J (O a' m' c')/\W.cell? ⟨w.heap.size+1,2,X⟩=J (Y Z t')/\W.cell? ⟨w.heap.size+1,3,X⟩=J (O f i g)) ((repeat' (with_reducible refine And.intro ?_ ?_))<;>(first|(go_simp;done)|(refine hx1.cellS ?_;go_simp;done))) (first|(go_at_call 81;(with_reducible refine(zaU w6 (I #[Y Z s',O a' m' c',Y Z t',O f i g]) q ?_).mono ?_);(refine hb.ext ?_;exact eA);rintro e w7 ⟨r7,rfl,D,aD⟩;obtain⟨s7,a7,m7,c7,rfl,-⟩:=D.form2;obtain⟨⟨ar,bj⟩,aT,aU,ac⟩:=cK3 w aD)|(go_at_call 81;(with_reducible refine(zaU w5 (I #[Y Z s,O a m c,Y Z t,O ea em ec]) p ?_).mono ?_);(refine ha.ext ?_;exact eA);rintro e w6 ⟨r6,rfl,z,aC⟩;obtain⟨s6,a6,m6,c6,rfl,-⟩:=z.form2;obtain⟨⟨aq,bi⟩,aR,aS,ab⟩:=cK3 w aC)|(go_at_call 81;(with_reducible refine(zaU w2 (I #[Y Z s,O a m c,Y Z t,O ea em ec]) p ?_).mono ?_);(refine ha.ext ?_;exact eA);rintro e w3 ⟨r3,rfl,u,az⟩;obtain⟨s3,a3,m3,c3,rfl,-⟩:=u.form2;obtain⟨⟨an,bf⟩,aK,aL,R⟩:=cK3 w az)|(go_at_call 81;(with_reducible refine(zaU _ (I #[Y Z s',O a' m' c',Y Z t',O f i g]) q ?_).mono ?_);(refine hb.ext ?_;exact eA);rintro e w1 ⟨r1,rfl,o,hx1⟩;obtain⟨s1,a1,m1,c1,rfl,-⟩:=o.form2;obtain⟨⟨al,bc⟩,aG,aH,P⟩:=cK3 w hx1)|(go_at_call 80;(with_reducible refine(zbD _ (I #[Y Z s,O a m c]) (I #[Y Z s1,O a1 m1 c1]) p.num (q.den:Int) ?_ ?_ af.out k.out).mono ?_);(refine aw.ext ?_;exact eA);(refine o.ext ?_;exact eA);rintro e w2 ⟨r2,rfl,r,ay⟩;obtain⟨s2,a2,m2,c2,rfl,-⟩:=r.form2;obtain⟨⟨am,be⟩,aI,aJ,Q⟩:=cK3 w ay)|(go_at_call 80;(with_reducible refine(zbD _ (I #[Y Z s',O a' m' c']) (I #[Y Z s3,O a3 m3 c3]) q.num (p.den:Int) ?_ ?_ ag.out j.out).mono ?_);(refine ax.ext ?_;exact eA);(refine u.ext ?_;exact eA);rintro e w4 ⟨r4,rfl,x,aA⟩;obtain⟨s4,a4,m4,c4,rfl,-⟩:=x.form2;obtain⟨⟨ao,bg⟩,aM,aO,T⟩:=cK3 w aA)|(go_at_call 169;(with_reducible refine(zlb _ (I #[Y Z s2,O a2 m2 c2]) (I #[Y Z s4,O a4 m4 c4]) (p.num*q.den) (q.num*p.den) ?_ ?_ l.out n.out).mono ?_);(refine r.ext ?_;exact eA);(refine x.ext ?_;exact eA);rintro e w5 ⟨r5,rfl,y,aB⟩;obtain⟨s5,a5,m5,c5,rfl,-⟩:=y.form2;obtain⟨⟨ap,bh⟩,aP,aQ,aa⟩:=cK3 w aB)|(go_at_call 80;(with_reducible refine(zbD _ (I #[Y Z s6,O a6 m6 c6]) (I #[Y Z s7,O a7 m7 c7]) (p.den:Int) (q.den:Int) ?_ ?_ j.out k.out).mono ?_);(refine z.ext ?_;exact eA);(refine D.ext ?_;exact eA);rintro e w8 ⟨r8,rfl,K,aE⟩;obtain⟨s8,a8,m8,c8,rfl,-⟩:=K.form2;obtain⟨⟨au,bk⟩,aV,aW,ad⟩:=cK3 w aE)|(go_at_call 146;(with_reducible refine(zeK _ (I #[Y Z s5,O a5 m5 c5]) (I #[Y Z s8,O a8 m8 c8]) (p.num*q.den+q.num*p.den) ((p.den:Int)*q.den) ?_ ?_ ak.out aj.out (zfg p q)).mono ?_);(refine y.ext ?_;exact eA);(refine K.ext ?_;exact eA);rintro e w9 ⟨r9,rfl,L,aF⟩;obtain⟨s9,a9,m9,c9,t9,e9,i9,j9,rfl⟩:=L.form;obtain⟨⟨av,bl⟩,aX,aY,ae⟩:=cK3 w aF))
 all_goals go_wp2
 refine bR (v:=I #[Y Z s9,O a9 m9 c9,Y Z t9,O e9 i9 j9]) (by simp[results,Tryz.results100,go_sem,al,am,an,ao,ap,aq,ar,au,av,P,Q,R,T,aa,ab,ac,ad,ae]) rfl ⟨_,rfl,?_,eA⟩;rw[<-zcP];exact L.keep kA
theorem zn3(w:M)(va vb:C)(p q:Rat)(ha:IsQ w va p)(hb:IsQ w vb q)(b:Rb limQ p)(d:Rb limQ q) :
  Calls Tryz.prog 101 #[va,vb] w (RetQr w (p*q)):=by
 obtain⟨s,a,m,c,t,ea,em,ec,rfl⟩:=ha.form;obtain⟨s',a',m',c',t',f,i,g,rfl⟩:=hb.form;have aA:=hd9 b;have aB:=hd9 d;have ag:=ha.top;have ah:=hb.top;have D:Hid (Lm limG p.num):=hd9 (b.1.mono dM);have K:Hid (Lm limG q.num):=hd9 (d.1.mono dM);have L:Hid (Lm limG (p.den:Int)):=hd9 (b.2.mono dM);have P:Hid (Lm limG (q.den:Int)):=hd9 (d.2.mono dM);have Q:Hid (Lm limE (p.num*q.den)):=hd9 ((b.1.mul d.2).mono dM);have R:Hid (Lm limE (q.num*p.den)):=hd9 ((d.1.mul b.2).mono dM);have T:Hid (Lm limE (p.num*q.num)):=hd9 ((b.1.mul d.1).mono dM);have aa:Hid (Lm limE ((p.den:Int)*q.den)):=hd9 ((b.2.mul d.2).mono dM);have aC:Hid (Lm limE ((p.den:Int)*q.num)):=hd9 ((b.2.mul d.1).mono dM);have am:Hid (Lm limG (p.num*q.den)):=hd9 (Q.out.mono dM);have an:Hid (Lm limG (q.num*p.den)):=hd9 (R.out.mono dM);have aD:Hid (Lm limE (p.num*q.den+q.num*p.den)):=hd9 (((b.1.mul d.2).add (d.1.mul b.2)).mono dM);clear b d;go_enter Tryz.func101,Tryz.ntmps101;go_wp2
 go_region_held3 (fun W=>W.cell? ⟨w.heap.size,0,X⟩=J (Y Z s)/\W.cell? ⟨w.heap.size,1,X⟩=J (O a m c)/\W.cell? ⟨w.heap.size,2,X⟩=J (Y Z t)/\W.cell? ⟨w.heap.size,3,X⟩=J (O ea em ec)/\W.cell? ⟨w.heap.size+1,0,X⟩=J (Y Z s')/\W.cell? ⟨w.heap.size+1,1,X⟩=J (O a' m' c')/\W.cell? ⟨w.heap.size+1,2,X⟩=J (Y Z t')/\W.cell? ⟨w.heap.size+1,3,X⟩=J (O f i g)) ((repeat' (with_reducible refine And.intro ?_ ?_))<;>(first|(go_simp;done)|(refine hx1.cellS ?_;go_simp;done))) (first|(go_at_call 80;(with_reducible refine(zbD _ (I #[Y Z s,O a m c]) (I #[Y Z s',O a' m' c']) p.num q.num ?_ ?_ D.out K.out).mono ?_);(refine ag.ext ?_;exact eA);(refine ah.ext ?_;exact eA);rintro e w1 ⟨r1,rfl,j,hx1⟩;obtain⟨s1,a1,m1,c1,rfl,-⟩:=j.form2;obtain⟨⟨ab,aE⟩,ao,ap,r⟩:=cK3 w hx1)|(go_at_call 81;(with_reducible refine(zaU _ (I #[Y Z s,O a m c,Y Z t,O ea em ec]) p ?_).mono ?_);(refine ha.ext ?_;exact eA);rintro e w2 ⟨r2,rfl,k,ai⟩;obtain⟨s2,a2,m2,c2,rfl,-⟩:=k.form2;obtain⟨⟨ac,aF⟩,aq,ar,u⟩:=cK3 w ai)|(go_at_call 81;(with_reducible refine(zaU _ (I #[Y Z s',O a' m' c',Y Z t',O f i g]) q ?_).mono ?_);(refine hb.ext ?_;exact eA);rintro e w3 ⟨r3,rfl,l,aj⟩;obtain⟨s3,a3,m3,c3,rfl,-⟩:=l.form2;obtain⟨⟨ad,aG⟩,au,av,x⟩:=cK3 w aj)|(go_at_call 80;(with_reducible refine(zbD _ (I #[Y Z s2,O a2 m2 c2]) (I #[Y Z s3,O a3 m3 c3]) (p.den:Int) (q.den:Int) ?_ ?_ L.out P.out).mono ?_);(refine k.ext ?_;exact eA);(refine l.ext ?_;exact eA);rintro e w4 ⟨r4,rfl,n,ak⟩;obtain⟨s4,a4,m4,c4,rfl,-⟩:=n.form2;obtain⟨⟨ae,aH⟩,aw,ax,y⟩:=cK3 w ak)|(go_at_call 146;(with_reducible refine(zeK _ (I #[Y Z s1,O a1 m1 c1]) (I #[Y Z s4,O a4 m4 c4]) (p.num*q.num) ((p.den:Int)*q.den) ?_ ?_ T.out aa.out (zfg p q)).mono ?_);(refine j.ext ?_;exact eA);(refine n.ext ?_;exact eA);rintro e w9 ⟨r9,rfl,o,al⟩;obtain⟨s9,a9,m9,c9,t9,e9,i9,j9,rfl⟩:=o.form;obtain⟨⟨af,aI⟩,ay,az,z⟩:=cK3 w al))
 all_goals go_wp2
 refine bR (v:=I #[Y Z s9,O a9 m9 c9,Y Z t9,O e9 i9 j9]) (by simp[results,Tryz.results101,go_sem,ab,ac,ad,ae,af,r,u,x,y,z]) rfl ⟨_,rfl,?_,eA⟩;rw[<-zcQ];exact o.keep kA
theorem zn5(w:M)(va vb:C)(p q:Rat)(Q:IsQ w va p)(R:IsQ w vb q)(g:Rb limQ p)(i:Rb limQ q) :
  Calls Tryz.prog 102 #[va,vb] w (RetQr w (p-q)):=by
 obtain⟨s,a,m,c,t,K,P,L,rfl⟩:=Q.form;obtain⟨s',z,T,D,t',b,f,d,rfl⟩:=R.form;have o:=hd9 g;have r:=hd9 i.neg;clear g i;rw[Rat.sub_eq_add_neg];go_enter Tryz.func102,Tryz.ntmps102;go_wp2
 go_region_held3 (fun W=>W.cell? ⟨w.heap.size,0,X⟩=J (Y Z s)/\W.cell? ⟨w.heap.size,1,X⟩=J (O a m c)/\W.cell? ⟨w.heap.size,2,X⟩=J (Y Z t)/\W.cell? ⟨w.heap.size,3,X⟩=J (O K P L)/\W.cell? ⟨w.heap.size+1,0,X⟩=J (Y Z s')/\W.cell? ⟨w.heap.size+1,1,X⟩=J (O z T D)/\W.cell? ⟨w.heap.size+1,2,X⟩=J (Y Z t')/\W.cell? ⟨w.heap.size+1,3,X⟩=J (O b f d)) ((repeat' (with_reducible refine And.intro ?_ ?_))<;>(first|(go_simp;done)|(refine hx1.cellS ?_;go_simp;done))) (first|(go_at_call 170;(with_reducible refine(zn4 _ (I #[Y Z s',O z T D,Y Z t',O b f d]) q ?_).mono ?_);(refine R.ext ?_;exact eA);rintro e w1 ⟨r1,rfl,j,hx1⟩;obtain⟨s1,a1,m1,c1,t1,e1,i1,j1,rfl⟩:=j.form;obtain⟨⟨u,ae⟩,aa,ab,l⟩:=cK3 w hx1)|(go_at_call 100;(with_reducible refine(zme _ (I #[Y Z s,O a m c,Y Z t,O K P L]) (I #[Y Z s1,O a1 m1 c1,Y Z t1,O e1 i1 j1]) p (-q) ?_ ?_ o.out r.out).mono ?_);(refine Q.ext ?_;exact eA);(refine j.ext ?_;exact eA);rintro e w9 ⟨r9,rfl,k,y⟩;obtain⟨s9,a9,m9,c9,t9,e9,i9,j9,rfl⟩:=k.form;obtain⟨⟨x,af⟩,ac,ad,n⟩:=cK3 w y))
 all_goals go_wp2
 exact bR (v:=I #[Y Z s9,O a9 m9 c9,Y Z t9,O e9 i9 j9]) (by simp[results,Tryz.results102,go_sem,u,x,l,n]) rfl ⟨_,rfl,k.keep kA,eA⟩
theorem zl1(w:M)(v:C)(n:Int)(h:IsZ w v n)(h0:0<=n)(h1:n<281474976710656) :
  Calls Tryz.prog 61 #[v] w fun e p=>e = .returned (H #[Y Z n,N true])/\Ext w p:=by
 obtain⟨a,m,c,s,rfl⟩:=h.form;have hs:s=false:=by rw[h.sgn];simp;omega
 subst hs;have T:Lm lim n:=Lm.mono (j:=2) ⟨by unfold B;omega,by unfold B;omega⟩ dM;have t:Lm lim (-9223372036854775808):=Lm.mono (j:=3) ⟨by unfold B;omega,by unfold B;omega⟩ dM;have u:Lm lim 9223372036854775807:=Lm.mono (j:=3) ⟨by unfold B;omega,by unfold B;omega⟩ dM;have L:=hd9 (fun(W:M)=>zcI W (-9223372036854775808) dM dM);have P:=hd9 (fun(W:M)=>zcI W 9223372036854775807 dM dM);have z:=hd9 (fun(W:M)(r:Ext w W)(v:C)(hv:IsZ W v (-9223372036854775808))=>(zhG W (I #[O a m c,N false]) v n (-9223372036854775808) (h.ext r) hv T t).mono fun e p (q:e = .returned (Y Z (n - -9223372036854775808).sign)/\Ext W p)=>(show e = .returned (Y Z 1)/\Ext W p from by rw[Int.sign_eq_one_of_pos oM]at q;exact q));have D:=hd9 (fun(W:M)(r:Ext w W)(v:C)(hv:IsZ W v 9223372036854775807)=>(zhG W (I #[O a m c,N false]) v n 9223372036854775807 (h.ext r) hv T u).mono fun e p (q:e = .returned (Y Z (n-9223372036854775807).sign)/\Ext W p)=>(show e = .returned (Y Z (-1))/\Ext W p from by rw[Int.sign_eq_neg_one_of_neg oM]at q;exact q));have HW:=hd9 (fun(W:M)(r:Ext w W)=>zcH W (I #[O a m c]) n (by have:=h.dig;rw[show ((n.natAbs:Nat):Int)=n by omega]at this;exact this.ext r) ⟨by unfold B;omega,by unfold B;omega⟩);clear h T t u;go_enter Tryz.func61,Tryz.ntmps61;go_wp2;refine wp_region_held_drew (S:=CellL [(⟨w.heap.size,0,X⟩,O a m c),(⟨w.heap.size,1,X⟩,N false)]) kM cA (fun b=>?_);refine tk1 (i:=0) ?_;refine cl1 (i:=1) fun K d=>?_
 go_simp
 (with_reducible refine cM (L.out _) ?_)
 rintro e w1 ⟨r1,rfl,f,x⟩;obtain⟨a1,m1,c1,s1,rfl⟩:=f.form
 go_wp2_with fail
 refine kO d (cE b x) (fun b=>?_);clear d K;have Q:Ext w w1:=eA;refine cl1 (i:=2) fun K d=>?_
 go_simp
 (with_reducible refine cM (z.out _ Q _ f) ?_)
 rintro e w2 ⟨rfl,k⟩
 skip
 go_wp2_with fail
 refine kO d (cE b k) (fun b=>?_);clear d K;have X2:Ext w w2:=Q.trans k;refine sN 3 ?_
 iterate 3
  refine tkn ?_
 refine oN ?_;refine cl1 (i:=6) fun K d=>?_
 go_simp
 (with_reducible refine cM (P.out _) ?_)
 rintro e w6 ⟨r6,rfl,g,l⟩;obtain⟨a6,m6,c6,s6,rfl⟩:=g.form
 go_wp2_with fail
 refine kO d (cE b l) (fun b=>?_);clear d K;have R:Ext w w6:=X2.trans l;refine cl1 (i:=7) fun K d=>?_
 go_simp
 (with_reducible refine cM (D.out _ R _ g) ?_)
 rintro e w7 ⟨rfl,o⟩
 skip
 go_wp2_with fail
 refine kO d (cE b o) (fun b=>?_);clear d K;have X7:Ext w w7:=R.trans o;refine sN 8 ?_
 iterate 2
  refine tkn ?_
 refine oN ?_;refine wpAnyH_done kM ?_ _;obtain⟨d0,d1,_⟩:=b;have e1:IntKind.i64.wrap n=n:=iW _ oM;clear x k l o Q X2 R f g
 go_wp2_with((go_at_call 138;(with_reducible refine(HW.out _ X7).mono ?_);rintro e w8 ⟨rfl,y⟩;obtain⟨aa,ab⟩:=y.cells;(have z8:w.heap.size<w7.heap.size:=World.block_lt_of_cell? _ _ d0)))
 refine bR (v:=H #[Y Z n,N true]) (by simp[results,Tryz.results61,go_sem]) rfl ?_;exact⟨rfl,X7.trans y⟩
end
section
open Go.RowKit Go.Shelf
def valS:List UInt8->Nat
 | []=>0
 | b::r=>(b.toNat-48)*10 ^ r.length+valS r
def DigS(s:List UInt8):Prop:=∀b∈s,48<=b.toNat/\b.toNat<58
theorem DigS.tail{b:UInt8}{s:List UInt8}(h:DigS (b::s)):DigS s:=fun x a=>h x (mC _ a)
theorem DigS.app{s t:List UInt8}(h:DigS s)(k:DigS t):DigS (s++t):=fun b a=>(List.mem_append.1 a).elim (h b) (k b)
theorem zkD:∀(s t:List UInt8),valS (s++t)=valS s*10 ^ t.length+valS t
 | [],t=>by simp[valS]
 | b::s,t=>by
  rw[List.cons_append,valS,valS,zkD s t,lA,Nat.pow_add,Nat.add_mul,Nat.mul_assoc,Nat.add_assoc]
theorem zfY:∀{s:List UInt8},DigS s->valS s<10 ^ s.length
 | [],_=>by simp[valS]
 | b::s,h=>by
  have a:=zfY h.tail;have c:=h b sM;have d:(b.toNat-48)*10 ^ s.length<=9*10 ^ s.length:=Nat.mul_le_mul_right _ oM;rw[valS,List.length_cons,Nat.pow_succ];omega
theorem zhz:∀{s t:List UInt8},DigS s->DigS t->s.length=t.length->valS s=valS t->s=t
 | [],[],_,_,_,_=>rfl
 | [],_::_,_,_,h,_=>by simp at h
 | _::_,[],_,_,h,_=>by simp at h
 | b::s,c::t,hs,ht,hl,hv=>by
  have a:s.length=t.length:=by simpa using hl
  rw[valS,valS,a]at hv;have d:=zfY hs.tail;have e:=zfY ht.tail;rw[a]at d;have m:=hs b sM;have n:=ht c sM
  have f:∀(x y u v P:Nat),u<P->v<P->x*P+u=y*P+v->x<=y:=fun x y u v P p hv o=>by
   by_cases h:x<=y
   ·exact h
   ·have:(y+1)*P<=x*P:=Nat.mul_le_mul_right _ oM
    rw[Nat.add_mul]at this;omega
  have k:=f _ _ _ _ _ d e hv;have l:=f _ _ _ _ _ e d hv.symm;have g:b.toNat-48=c.toNat-48:=oM
  rw[g]at hv;have i:valS s=valS t:=oM
  have j:b=c:=UInt8.toNat_inj.1 oM;rw[j,zhz hs.tail ht.tail a i]
theorem zlV(n:Nat)(h:n<10000000):valS (fix7 n)=n:=by
 have e:∀d:Nat,(UInt8.ofNat (48+d % 10)).toNat-48=d % 10:=fun d=>by
  rw[UInt8.toNat_ofNat_of_lt' (by simp[UInt8.size];omega)];omega
 unfold fix7;simp only[List.map_cons,List.map_nil,valS,e,List.length_cons,List.length_nil];omega
theorem zk1(n:Nat):DigS (fix7 n):=by
 intro b a;unfold fix7 at a;obtain⟨d,_,rfl⟩:=List.mem_map.1 a;rw[UInt8.toNat_ofNat_of_lt' (by simp[UInt8.size];omega)];omega
theorem zcU:∀(k n:Nat),n<k->valS (chunksF k n).flatten=n/\DigS (chunksF k n).flatten
 | 0,_,h=>by omega
 | k+1,n,h=>by
  unfold chunksF
  split
  ·rename_i h0
   exact⟨by rw[h0];rfl,fun b d=>by simp at d⟩
  ·obtain⟨a,c⟩:=zcU k (n / 10000000) oM
   rw[List.flatten_append,List.flatten_singleton];refine⟨?_,c.app (zk1 _)⟩;rw[zkD,a,zlV _ oM,zk5];omega
theorem ze8:∀{s:List UInt8},valS (Lib.trimLeftB s 48)=valS s
 | []=>rfl
 | b::s=>by
  unfold Lib.trimLeftB;rw[List.dropWhile_cons]
  split
  ·rename_i h
   have e:b=48:=by simpa using h
   subst e;have:=ze8 (s:=s);unfold Lib.trimLeftB at this;rw[this,valS];simp
  ·rfl
theorem zfq:∀{s:List UInt8}{b:UInt8}{r:List UInt8},Lib.trimLeftB s 48=b::r->b≠48
 | [],b,r,h=>by cases h
 | c::s,b,r,h=>by
  unfold Lib.trimLeftB at h;rw[List.dropWhile_cons]at h
  split at h
  ·exact zfq (s:=s) h
  ·rename_i hc
   cases h
   simpa using hc
theorem zht{s:List UInt8}{n:Nat}(l:n≠0)(f:DigS s)(hv:valS s=n)(p:10 ^ (s.length-1)<=n):textN n=s:=by
 obtain⟨j,k⟩:=zcU (n+1) n oM;have a:=ze8 (s:=(chunksF (n+1) n).flatten);rw[j]at a;have c:DigS (Lib.trimLeftB (chunksF (n+1) n).flatten 48):=fun b d=>k b ((List.dropWhile_suffix _).subset d)
 unfold textN
 generalize ht:Lib.trimLeftB (chunksF (n+1) n).flatten 48=t at *
 cases t with
 | nil=>exact absurd a.symm l
 | cons b r =>
  rw[if_neg sM];have d:=zfq ht;have m:=c b sM
  have o:49<=b.toNat:=by
   have:b.toNat≠48:=fun e=>d (UInt8.toNat_inj.1 (by simpa using e))
   omega
  have q:10 ^ r.length<=n:=by
   rw[<-a,valS];have:1*10 ^ r.length<=(b.toNat-48)*10 ^ r.length:=Nat.mul_le_mul_right _ oM;omega
  have g:=zfY c;have i:=zfY f;rw[a]at g;rw[hv]at i;have v:r.length<s.length:=(Nat.pow_lt_pow_iff_right (by decide:1<10)).1 (Nat.lt_of_le_of_lt q i);have u:s.length-1<(b::r).length:=(Nat.pow_lt_pow_iff_right (by decide:1<10)).1 (Nat.lt_of_le_of_lt p g);refine zhz c f ?_ (by rw[a,hv]);rw[List.length_cons]at u ⊢;omega
theorem zkr:textZ 1=[49]:=by
 unfold textZ;rw[if_neg dM];exact zht dM (fun b a=>by rw[List.mem_singleton.1 a];decide) dM dM
theorem zlO{d:Nat}(c:d≠1):textZ (d:Int)≠[49]:=by
 intro h;unfold textZ at h;rw[if_neg oM,Int.natAbs_natCast]at h;obtain⟨b,e⟩:=zcU (d+1) d oM;have a:=ze8 (s:=(chunksF (d+1) d).flatten);unfold textN at h
 split at h
 ·cases h
 ·rw[h,b]at a
  exact c (a.symm.trans dM)
theorem zlS{s:List UInt8}{V:Nat}{i k g:Nat}(d:DigS s)(c:s.length=4*i+k)(hv:valS s=V+10000 ^ i*(g % 10 ^ k)) :
  DigS (UInt8.ofNat (48+g / 10 ^ k % 10)::s)/\(UInt8.ofNat (48+g / 10 ^ k % 10)::s).length=4*i+(k+1)/\valS (UInt8.ofNat (48+g / 10 ^ k % 10)::s)=V+10000 ^ i*(g % 10 ^ (k+1)):=by
 have e:(UInt8.ofNat (48+g / 10 ^ k % 10)).toNat=48+g / 10 ^ k % 10:=UInt8.toNat_ofNat_of_lt' (by simp[UInt8.size];omega);refine⟨fun b a=>?_,by rw[List.length_cons,c];omega,?_⟩
 ·rcases List.mem_cons.1 a with rfl|a
  ·omega
  ·exact d b a
 ·rw[valS,e,c,hv,Nat.mod_pow_succ,Nat.pow_add,Nat.pow_mul,Nat.add_sub_cancel_left,Nat.mul_add]
  generalize g / 10 ^ k % 10=x
  have:x*((10 ^ 4) ^ i*10 ^ k)=10000 ^ i*(10 ^ k*x):=by
   rw[show (10:Nat) ^ 4=10000 from rfl,Nat.mul_comm x,Nat.mul_assoc]
  omega
theorem znG{n i k g:Nat}{s:List UInt8}{V:Nat}(f:DigS s)(j:s.length=4*i+k)(hv:valS s=V+10000 ^ i*(g % 10 ^ k))(l:g / 10 ^ k=0)(m:0<k)(a:0<g / 10 ^ (k-1))(b:n=V+10000 ^ i*g):textN n=s:=by
 have c:g<10 ^ k:=by
  rcases Nat.div_eq_zero_iff.1 l with h|h
  ·exact absurd h (Nat.ne_of_gt (Nat.pow_pos dM))
  ·exact h
 have d:10 ^ (k-1)<=g:=by
  by_cases h:10 ^ (k-1)<=g
  ·exact h
  ·rw[Nat.div_eq_of_lt oM]at a;omega
 rw[Nat.mod_eq_of_lt c,<-b]at hv
 have e:10 ^ (s.length-1)<=n:=by
  rw[j,show 4*i+k-1=4*i+(k-1) by omega,Nat.pow_add,Nat.pow_mul,show (10:Nat) ^ 4=10000 from rfl,b];exact nT (Nat.mul_le_mul_left _ d) (Nat.le_add_left _ _)
 refine zht ?_ f hv e;have:0<10 ^ (s.length-1):=Nat.pow_pos dM;omega
end
end Go.Proofs.YtjnjpagegkcgfaaGreatDoor.Cop
