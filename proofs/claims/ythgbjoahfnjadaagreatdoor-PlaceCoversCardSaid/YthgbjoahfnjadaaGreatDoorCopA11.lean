import Derived.Test.YthgbjoahfnjadaaGreatDoorCopA10
set_option maxRecDepth 1000000
set_option maxHeartbeats 16000000
set_option linter.all false
open Go.Value renaming int->O,slice->Y,bool->N,agg->F,tuple->L,pointer->U
open Go.IntKind renaming i64->Z,u8->A
open Option renaming none->V,some->C
open Go renaming World->I,Value->M
open Go.Obj renaming cells->J
namespace Go.Proofs.YthgbjoahfnjadaaGreatDoor.Cop
section
open Go.RowKit Go.Shelf Go.Sort Go.Lib
def Fp:M:=F #[Y V 0 0,Y V 0 0]
def Em(w:I)(a:M)(g:LP)(ps:List Pl)(e:Ending)(w':I):Prop:=
 (pb g ps≠0/\e=.returned (L #[Fp,O Z (pb g ps)])/\oa w w')\/(pb g ps=0/\∃vs,e=.returned (L #[F #[a,vs],O Z 0])/\Ub w' vs ps/\oa w w')
def Wj(w:I)(b:Nat)(a c d:M)(W:I):Prop:=
 W.heap[w.heap.size]?=C (J #[a,c] 35 (0,0))/\W.heap[w.heap.size+1]?=C (J #[Y V 0 0,Y V 0 0] 110 (0,0))/\W.heap[b]?=C (J #[a,d] 110 (0,0))
def Wj.ext{w W W':I}{a:Nat}{b c d:M}(h:Wj w a b c d W)(k:oa W W'):Wj w a b c d W':=⟨k.e h.1,k.e h.2.1,k.e h.2.2⟩
def Wj.below{w W W':I}{a:Nat}{b c d:M}(h:Wj w a b c d W)(k:Below (a+1) W W')(i:w.heap.size+1<a):Wj w a b c d W':=by obtain⟨e,f,g⟩:=h;exact⟨(k.block _ oM).trans e,(k.block _ oM).trans f,(k.block _ oM).trans g⟩
def Wj.put{w W:I}{a:Nat}{b c g:M}(h:Wj w a b c g W)(i:w.heap.size+1<a)(v:M):Wj w a b c v (W.setCell ⟨a,1,V⟩ v):=by
 obtain⟨d,e,f⟩:=h;refine⟨?_,?_,?_⟩
 ·rw[bS _ _ _ _ dO];exact d
 ·rw[bS _ _ _ _ dO];exact e
 ·simp[World.setCell,Array.getElem?_modify,f]
def vM(w:I)(a:Nat)(d e:M)(g:LP)(ps:List Pl)(c:Nat)(t28:M)(W:I):Prop:=
 ∃(i:Nat)(b:M),i<=ps.length/\t28=O Z i/\c=ps.length-i/\oa w W/\a+1<=W.heap.size/\Wj w a d e b W/\Gd W (a+1) b (ps.take i)/\Ed g [] ps=Ed g (ps.take i) (ps.drop i)/\∀p∈ps.take i,Ea p=true
def uM(w:I)(b:Nat)(e f:M)(c:M)(g:LP)(ps:List Pl)(d:Nat)(a:M)(W:I):Prop:=
 ∃i:Nat,i<=ps.length/\a=O Z i/\d=ps.length-i/\oa w W/\b+1<=W.heap.size/\Wj w b e f c W/\Ub W c ps/\Ie g [] ps=Ie g (ps.take i) (ps.drop i)
def oa.isPts{w w':I}{v:M}{ps:LP}(h:Aa w v ps)(k:oa w w'):Aa w' v ps:=h.i k
def Ku(w:I)(vg vp:M)(g:LP)(ps:List Pl)(hg:Aa w vg g)(hp:td w vp ps)(bo:Gw w):Calls Tryz.prog 43 #[F #[vg,vp]] w (Em w vg g ps):=by
 have HG:=ia (fun(W:I)(hW:oa w W)=>kJ W vg g (hg.i hW));have ba:=ia (fun(W:I)(hW:oa w W)=>hg.i hW);have bV:=ia (fun(W:I)(hW:oa w W)=>hp.i hW);have bO:=ia bo;obtain⟨ga,gn,gc,rfl⟩:=Ia hg;obtain⟨pa,pn,aY,rfl⟩:=Ia hp;have bq:=hp.len;have br:=hp.le;obtain⟨R,hR⟩:=gX (Em w (Y ga gn gc) g ps);rw[hR];have HR:=ia hR;have Hn:=ia bq.symm;have cq:pn<=9223372036854775807:=by unfold maxLen at br;omega
 clear hg hp bo bq br hR;obtain⟨G,hG⟩:=gX (ub g);have aw:=ia hG;rw[hG]at HG;clear hG;cases G with
 |false=>
  have e:pb g ps=2:=by unfold pb;rw[aw.o];rfl
  have E:=ia e;clear e;go_in;go_wp2_with(go_at_call 115;refine cM (HG.o _ eA) ?_;rintro e w3 ⟨rfl,ab⟩;obtain⟨ay,aB⟩:=ab.cells;have z3:=ab.size;simp only[wZ]at z3);have bw:w.heap.size<w3.heap.size:=oM;have bx:w.heap.size+1<w3.heap.size:=oM;refine bR (v:=L #[F #[Y V 0 0,Y V 0 0],O Z 2]) (by simp[results,Tryz.results43,go_sem,ay,aB]) rfl ?_;rw[<-HR.o];exact .inl ⟨by rw[E.o];decide,by rw[E.o];rfl,eA⟩
 |true=>
  by_cases hn:120<pn
  ·have e:pb g ps=5:=by unfold pb;rw[aw.o,if_pos rfl,if_pos (by rw[Hn.o];exact hn)]
   have E:=ia e;have cd:(120:Int)<(pn:Int):=oM;clear e hn;go_in;go_wp2_with(go_at_call 115;refine cM (HG.o _ eA) ?_;rintro e w3 ⟨rfl,ab⟩;obtain⟨ay,aB⟩:=ab.cells;have z3:=ab.size;simp only[wZ]at z3);have bw:w.heap.size<w3.heap.size:=oM;have bx:w.heap.size+1<w3.heap.size:=oM;refine bR (v:=L #[F #[Y V 0 0,Y V 0 0],O Z 5]) (by simp[results,Tryz.results43,go_sem,ay,aB]) rfl ?_;rw[<-HR.o];exact .inl ⟨by rw[E.o];decide,by rw[E.o];rfl,eA⟩
  have e:pb g ps=if Ed g [] ps=0 then Ie g [] ps else Ed g [] ps:=by unfold pb;rw[aw.o,if_pos rfl,if_neg (by rw[Hn.o];exact hn)]
  have E:=ia e;have cd:¬(120:Int)<(pn:Int):=oM;clear e;go_in;go_wp2_with(go_at_call 115;refine cM (HG.o _ eA) ?_;rintro e w3 ⟨rfl,ab⟩;obtain⟨ay,aB⟩:=ab.cells;have z3:=ab.size;simp only[wZ]at z3;have bw:w.heap.size<w3.heap.size:=oM;have bx:w.heap.size+1<w3.heap.size:=oM);obtain⟨a,aR⟩:=gX w3.heap.size;have bW:=ia (show (w3.alloc (J #[Y ga gn gc,Y V 0 0] 110)).heap.size=a+1 by simp[aR]);have Hz:=ia (show w.heap.size+1<a by omega);have K:Wj w a (Y ga gn gc) (Y pa pn aY) (Y V 0 0) (w3.alloc (J #[Y ga gn gc,Y V 0 0] 110)):=by
   have y:=(eR w3).alloc (J #[Y ga gn gc,Y V 0 0] 110);refine⟨y.e (ab.e ?_),y.e (ab.e (Kc _ _ _ sM)),Kc _ _ _ aR.symm⟩;rw[Ef,if_neg sM];exact Kc _ _ _ rfl
  have bf:oa w w3:=eA;rw[aR]at *;clear ay aB ab;go_loopg [28] pn (vM w a (Y ga gn gc) (Y pa pn aY) g ps)
  case atStart =>
   exact⟨0,_,by omega,rfl,by rw[Hn.o];rfl,bf.alloc _,by rw[bW.o];omega,K,Gd.nil _ _,by simp,fun p h=>by simp at h⟩
  case round =>
   clear K bf;obtain⟨i,vs,hi,rfl,rfl,hx,aS,K,f,r,am⟩:=hrel;rw[Hn.o]at hi;obtain⟨va,vn,vc,rfl⟩:=f.j;have HC:=ia K;have a8:=ia f;have Hx:=ia hx;have bU:=ia am;have bP:=ia r;have k0:=ja K.2.1 0 (Y V 0 0);have k1:=ja K.2.1 1 (Y V 0 0);have kf:=Vb K.2.1;have m0:=ja K.2.2 0 (Y ga gn gc);have m1:=ja K.2.2 1 (Y va vn vc);have mf:=Vb K.2.2;have zb:a<wr.heap.size:=oM;have zw:w.heap.size+1<wr.heap.size:=by have:=Hz.o;omega
   by_cases aH:i<pn
   ·obtain⟨p,hq⟩:∃q,ps[i]?=C q:=⟨ps[i]'(by rw[Hn.o];omega),by simp[Hn.o,aH]⟩;obtain⟨b,o,v,rfl,hb,d1,dk,n⟩:=(bV.o _ hx).at' hq;have aF:=ia d1;have au:=ia (fun W (hW:oa wr W)=>Bs W p v (d1.i hW) dk);have aO:=ia (fun W (hW:oa wr W) (h:Ea p=true)=>Rr W p v (d1.i hW) h (bO.o.ext (hx.trans hW)));obtain⟨aj,al,ak,rfl⟩:=Ia d1;have Hq:=ia hq;obtain⟨ok,f1⟩:=gX (Ea p);have F1:=ia f1;rw[f1]at au;have aQ:=n 0 (.string p.name) rfl;have bX:=n 1 (Y aj al ak) rfl;have bY:=n 2 (O Z p.depth) rfl;have bZ:=n 3 (O Z p.density) rfl;have b0:=n 4 (O Z p.gx) rfl;have b1:=n 5 (O Z p.gz) rfl;have b2:=n 6 (O Z p.way) rfl;have b3:=n 7 (O Z p.ax) rfl;have b5:=n 8 (O Z p.az) rfl;have b6:=n 9 (O A p.skin) rfl;simp only[Nat.add_zero]at aQ;have cr:a<wr.heap.size+1:=oM;have ct:w.heap.size+1<wr.heap.size+1:=oM;obtain⟨er,hE⟩:=gX (Cg g (ps.take i) p);have aa:=hE;unfold Cg at aa;unfold pe at au aO;cases ok with
    |false=>
     have e:pb g ps=2:=by
      (have h2:Cg g (ps.take i) p=2:=by unfold Cg;rw[f1];rfl);(have h1:Ed g [] ps=2:=by rw[r,Tu hq (by rw[h2];decide),h2]);rw[E.o,h1];rfl
     have E2:=ia e;clear e hE aa hq n f1 d1 K r am f E;go_wp2_with(go_at_call 103;refine cM (au.o _ eA) ?_;rintro e l ⟨rfl,s⟩;obtain⟨aU,aX⟩:=s.cells;(have z5:=s.size);(try simp only[wZ,Tb]at z5);(have aZ:a<l.heap.size:=oM);(have a4:w.heap.size+1<l.heap.size:=oM);(have a3:w.heap.size+1<l.heap.size+1:=oM);(have a0:a<l.heap.size+1:=oM);(have a1:wr.heap.size<l.heap.size:=oM);(have a2:wr.heap.size<l.heap.size+1:=oM));have X5:oa wr l:=eA;have K5:=X5.e HC.o.2.1;have x0:=ja K5 0 (Y V 0 0);have x1:=ja K5 1 (Y V 0 0);have xf:=Vb K5;refine bR (v:=L #[F #[Y V 0 0,Y V 0 0],O Z 2]) (by simp[results,Tryz.results43,go_sem,x0,x1,xf]) rfl ?_;rw[<-HR.o];exact .inl ⟨by rw[E2.o];decide,by rw[E2.o];rfl,eA⟩
    |true=>
     rw[f1,if_pos rfl]at aa;have aA:∀q∈ps.take i++[p],Ea q=true:=fun q hq=>by
      rcases List.mem_append.1 hq with h|h
      ·exact am q h
      ·rw[List.mem_singleton.1 h];exact f1
     have HO:=ia (fun W (hW:oa wr W)=>aO.o W hW f1);have HH:=ia (fun(W:I)(hW:oa wr W)(bv:M)(h2:Qd W bv p)=>oA W (Y ga gn gc) (Y va vn vc) bv g p (ba.o _ (hx.trans hW)) ⟨_,_,_,rfl⟩ h2 (pp aw.o) f1);have HN:=ia (fun(W:I)(hW:oa wr W)=>WB W (Y ga gn gc) (Y va vn vc) (ps.take i) p.name ⟨_,_,_,rfl⟩ (f.las.i hW));obtain⟨bh,f2⟩:=gX (fe g p);obtain⟨bn,f3⟩:=gX ((ps.take i).any (qg p.name));rw[f2]at HH aa;rw[f3]at HN aa;have aP:=ia aA;clear aA aO;cases bh with
     |false=>
      have e:pb g ps=2:=by
       (have h2:Cg g (ps.take i) p=2:=by rw[hE,<-aa];rfl);(have h1:Ed g [] ps=2:=by rw[r,Tu hq (by rw[h2];decide),h2]);rw[E.o,h1];rfl
      have E2:=ia e;clear e hE aa hq n f1 f2 f3 d1 K r am f E;go_wp2_with(first|(go_at_call 103;refine cM (au.o _ eA) ?_;rintro e l ⟨rfl,s⟩;obtain⟨aU,aX⟩:=s.cells;(have z5:=s.size);(try simp only[wZ,Tb]at z5);(have aZ:a<l.heap.size:=oM);(have a4:w.heap.size+1<l.heap.size:=oM);(have a3:w.heap.size+1<l.heap.size+1:=oM);(have a0:a<l.heap.size+1:=oM);(have a1:wr.heap.size<l.heap.size:=oM);(have a2:wr.heap.size<l.heap.size+1:=oM))|(go_at_call 104;refine cM (HO.o _ eA) ?_;rintro e x ⟨vl,vu,rfl,an,ao,ap⟩;obtain⟨ac,af,ae,rfl⟩:=Ia an;obtain⟨ag,ai,ah,rfl⟩:=Ia ao;obtain⟨bi,bl⟩:=ap.cells;(have z6:=ap.size);(try simp only[wZ,Tb]at z6);(have bz:a<x.heap.size:=oM);(have bJ:w.heap.size+1<x.heap.size:=oM);(have bH:w.heap.size+1<x.heap.size+1:=oM);(have bB:a<x.heap.size+1:=oM);(have bD:wr.heap.size<x.heap.size:=oM);(have bF:wr.heap.size<x.heap.size+1:=oM);try unfold Jd)|(go_at_call 105;refine cM (HH.o _ eA _ ?_) ?_;(exact⟨_,_,_,rfl,oa.isPts (w:=wr) aF.o eA,an.i eA,ao.i eA⟩);rintro e P ⟨rfl,aq⟩;obtain⟨bj,bm⟩:=aq.cells;(have z7:=aq.size);(try simp only[wZ,Tb]at z7);(have bA:a<P.heap.size:=oM);(have bK:w.heap.size+1<P.heap.size:=oM);(have bI:w.heap.size+1<P.heap.size+1:=oM);(have bC:a<P.heap.size+1:=oM);(have bE:wr.heap.size<P.heap.size:=oM);(have bG:wr.heap.size<P.heap.size+1:=oM);(have bL:x.heap.size<P.heap.size:=oM)));have X7:oa wr P:=eA;have K7:=X7.e HC.o.2.1;have x0:=ja K7 0 (Y V 0 0);have x1:=ja K7 1 (Y V 0 0);have xf:=Vb K7;refine bR (v:=L #[F #[Y V 0 0,Y V 0 0],O Z 2]) (by simp[results,Tryz.results43,go_sem,x0,x1,xf]) rfl ?_;rw[<-HR.o];exact .inl ⟨by rw[E2.o];decide,by rw[E2.o];rfl,eA⟩
     |true=>
      cases bn with
      |true=>
       have e:pb g ps=7:=by
        (have h2:Cg g (ps.take i) p=7:=by rw[hE,<-aa];rfl);(have h1:Ed g [] ps=7:=by rw[r,Tu hq (by rw[h2];decide),h2]);rw[E.o,h1];rfl
       have E2:=ia e;clear e hE aa hq n f1 f2 f3 d1 K r am f E;go_wp2_with(first|(go_at_call 103;refine cM (au.o _ eA) ?_;rintro e l ⟨rfl,s⟩;obtain⟨aU,aX⟩:=s.cells;(have z5:=s.size);(try simp only[wZ,Tb]at z5);(have aZ:a<l.heap.size:=oM);(have a4:w.heap.size+1<l.heap.size:=oM);(have a3:w.heap.size+1<l.heap.size+1:=oM);(have a0:a<l.heap.size+1:=oM);(have a1:wr.heap.size<l.heap.size:=oM);(have a2:wr.heap.size<l.heap.size+1:=oM))|(go_at_call 104;refine cM (HO.o _ eA) ?_;rintro e x ⟨vl,vu,rfl,an,ao,ap⟩;obtain⟨ac,af,ae,rfl⟩:=Ia an;obtain⟨ag,ai,ah,rfl⟩:=Ia ao;obtain⟨bi,bl⟩:=ap.cells;(have z6:=ap.size);(try simp only[wZ,Tb]at z6);(have bz:a<x.heap.size:=oM);(have bJ:w.heap.size+1<x.heap.size:=oM);(have bH:w.heap.size+1<x.heap.size+1:=oM);(have bB:a<x.heap.size+1:=oM);(have bD:wr.heap.size<x.heap.size:=oM);(have bF:wr.heap.size<x.heap.size+1:=oM);try unfold Jd)|(go_at_call 105;refine cM (HH.o _ eA _ ?_) ?_;(exact⟨_,_,_,rfl,oa.isPts (w:=wr) aF.o eA,an.i eA,ao.i eA⟩);rintro e P ⟨rfl,aq⟩;obtain⟨bj,bm⟩:=aq.cells;(have z7:=aq.size);(try simp only[wZ,Tb]at z7);(have bA:a<P.heap.size:=oM);(have bK:w.heap.size+1<P.heap.size:=oM);(have bI:w.heap.size+1<P.heap.size+1:=oM);(have bC:a<P.heap.size+1:=oM);(have bE:wr.heap.size<P.heap.size:=oM);(have bG:wr.heap.size<P.heap.size+1:=oM);(have bL:x.heap.size<P.heap.size:=oM))|(go_at_call 106;refine cM (HN.o _ eA) ?_;rintro e w8 ⟨rfl,aE⟩;obtain⟨ca,cc⟩:=aE.cells;(have z8:=aE.size);(try simp only[wZ,Tb]at z8);(have ce:a<w8.heap.size:=oM);(have cj:w.heap.size+1<w8.heap.size:=oM);(have ci:w.heap.size+1<w8.heap.size+1:=oM);(have cf:a<w8.heap.size+1:=oM);(have cg:wr.heap.size<w8.heap.size:=oM);(have ch:wr.heap.size<w8.heap.size+1:=oM);(have ck:x.heap.size<w8.heap.size:=oM)));have X8:oa wr w8:=eA;have K8:=X8.e HC.o.2.1;have x0:=ja K8 0 (Y V 0 0);have x1:=ja K8 1 (Y V 0 0);have xf:=Vb K8;refine bR (v:=L #[F #[Y V 0 0,Y V 0 0],O Z 7]) (by simp[results,Tryz.results43,go_sem,x0,x1,xf]) rfl ?_;rw[<-HR.o];exact .inl ⟨by rw[E2.o];decide,by rw[E2.o];rfl,eA⟩
      |false=>
       (have h2:Cg g (ps.take i) p=0:=by rw[hE,<-aa];rfl);have e:=r.trans (iJ hq h2);have E2:=ia e;have bt:ps.take (i+1)=ps.take i++[p]:=Xf _ _ _ hq;have bb:=ia bt;obtain⟨cs,aW,aV,bk⟩:=f;have a5:=ia aW;have bN:=ia bk;have bM:=ia aV;have bQ:=ia (show cs.length<=120 by rw[aV];simp;omega);have bT:=ia (fun j (h:(Value.slice va vn vc).ownBlock=C j)=>aW.lt j h);clear e hE aa hq n f1 f2 f3 d1 K r am E h2 bt aW aV bk;go_wp2_with(first|(go_at_call 103;refine cM (au.o _ eA) ?_;rintro e l ⟨rfl,s⟩;obtain⟨aU,aX⟩:=s.cells;(have z5:=s.size);(try simp only[wZ,Tb]at z5);(have aZ:a<l.heap.size:=oM);(have a4:w.heap.size+1<l.heap.size:=oM);(have a3:w.heap.size+1<l.heap.size+1:=oM);(have a0:a<l.heap.size+1:=oM);(have a1:wr.heap.size<l.heap.size:=oM);(have a2:wr.heap.size<l.heap.size+1:=oM))|(go_at_call 104;refine cM (HO.o _ eA) ?_;rintro e x ⟨vl,vu,rfl,an,ao,ap⟩;obtain⟨ac,af,ae,rfl⟩:=Ia an;obtain⟨ag,ai,ah,rfl⟩:=Ia ao;obtain⟨bi,bl⟩:=ap.cells;(have z6:=ap.size);(try simp only[wZ,Tb]at z6);(have bz:a<x.heap.size:=oM);(have bJ:w.heap.size+1<x.heap.size:=oM);(have bH:w.heap.size+1<x.heap.size+1:=oM);(have bB:a<x.heap.size+1:=oM);(have bD:wr.heap.size<x.heap.size:=oM);(have bF:wr.heap.size<x.heap.size+1:=oM);try unfold Jd)|(go_at_call 105;refine cM (HH.o _ eA _ ?_) ?_;(exact⟨_,_,_,rfl,oa.isPts (w:=wr) aF.o eA,an.i eA,ao.i eA⟩);rintro e P ⟨rfl,aq⟩;obtain⟨bj,bm⟩:=aq.cells;(have z7:=aq.size);(try simp only[wZ,Tb]at z7);(have bA:a<P.heap.size:=oM);(have bK:w.heap.size+1<P.heap.size:=oM);(have bI:w.heap.size+1<P.heap.size+1:=oM);(have bC:a<P.heap.size+1:=oM);(have bE:wr.heap.size<P.heap.size:=oM);(have bG:wr.heap.size<P.heap.size+1:=oM);(have bL:x.heap.size<P.heap.size:=oM))|(go_at_call 106;refine cM (HN.o _ eA) ?_;rintro e w8 ⟨rfl,aE⟩;obtain⟨ca,cc⟩:=aE.cells;(have z8:=aE.size);(try simp only[wZ,Tb]at z8);(have ce:a<w8.heap.size:=oM);(have cj:w.heap.size+1<w8.heap.size:=oM);(have ci:w.heap.size+1<w8.heap.size+1:=oM);(have cf:a<w8.heap.size+1:=oM);(have cg:wr.heap.size<w8.heap.size:=oM);(have ch:wr.heap.size<w8.heap.size+1:=oM);(have ck:x.heap.size<w8.heap.size:=oM))|(at_builtin;refine kj (T:=118) (t:=108) (z:=F Mp) (k:=12) (bytes:=152) (base:=a+1) (v:=Y va vn vc) (cs:=cs) (m:=1) (c:=1) (ad:=⟨w8.heap.size,0,V⟩) IE rfl dM dM Tryz.underlying108 rfl _ _ rfl rfl (a5.o.ext eA) rfl [(Jd p (Y aj al ak) (Y ac af ae) (Y ag ai ah)).toList] rfl (by simp[Jd]) (by exact yr w8 (Jd p (Y aj al ak) (Y ac af ae) (Y ag ai ah)) 118) (by simp[Jd,Value.oneCell']) (by have:=bQ.o;omega) (by simp only[wZ];omega) ?_;intro v' w9 aD ar cn;obtain⟨a9,n9,c9,rfl⟩:=aD.j;(have av:oa wr (w8.alloc (J (Jd p (Y aj al ak) (Y ac af ae) (Y ag ai ah)) 118)):=eA);(have hK:=av.e HC.o.2.2);(have hM:w9.heap[a]?=C (J #[Y ga gn gc,Y va vn vc] 110 (0,0)):=Bh ar hK (fun e=>by have:=(bT.o _ e.symm).1;omega));(have n1:=ja hM 1 (Y va vn vc));(have nf:=Vb hM)));go_roundg (pn-(i+1))
       case measure=>have:=Hn.o;omega
       case rel =>
        have be:=a5.o.ext av;(have bg:a+1<=(w8.alloc (J (Jd p (Y aj al ak) (Y ac af ae) (Y ag ai ah)) 118)).heap.size:=by simp only[wZ];omega);have aT:=Ch (base:=a+1) ar bg (fun k hk=>(be.lt k hk).1);have aG:=be.keepT (T':=55) dM ar;have b9:oa w (w8.alloc (J (Jd p (Y aj al ak) (Y ac af ae) (Y ag ai ah)) 118)):=Hx.o.trans av;have hz:=Hz.o;have b8:oa w w9:=b9.E aT oM;have b7:Wj w a _ _ _ w9:=(HC.o.ext av).below aT hz;have aL:oa x (w8.alloc (J (Jd p (Y aj al ak) (Y ac af ae) (Y ag ai ah)) 118)):=eA;have bd:Gd w9 (a+1) (Y a9 n9 c9) (ps.take i++[p]):=Gd.app aD bM.o bN.o (av.keep.trans aG) ⟨_,_,_,rfl,((aF.o.i av).G aG),((an.i aL).G aG),((ao.i aL).G aG)⟩;refine⟨i+1,Y a9 n9 c9,by rw[Hn.o];omega,by go_num,by rw[Hn.o],b8.set dO _,by rw[sf];exact nT bg aT.size,b7.put hz _,?_,E2.o,by rw[bb.o];exact aP.o⟩;rw[bb.o];exact bd.setOther (fun e=>by have:=(bd.lt _ e).1;dsimp only at this;omega) (fun cs fr h=>by rw[hM]at h;cases h) _
   ·obtain rfl:i=pn:=oM;have e1:ps.take i=ps:=lT (by rw[Hn.o];exact nE _);have e2:ps.drop i=[]:=List.drop_of_length_le (by rw[Hn.o];exact nE _);rw[e1]at am f r;rw[e2,show Ed g ps []=0 from rfl]at r;have hE:=E.o;rw[if_pos r]at hE;have E3:=ia hE;have aJ:=ia am;have d:=f.las;have aK:=d.len;rw[Hn.o]at aK;subst aK;have aI:=d.le;rw[Hn.o]at aI;have co:vn<=vc:=aI.1;(have cp:vc<=9223372036854775807:=by have:=aI.2;unfold maxLen at this;omega);clear e1 e2 r hE f a8 bU bP E am aI;go_wp2;go_loopg [59] vn (uM w a (Y ga gn gc) (Y pa vn aY) (Y va vn vc) g ps)
    case atStart=>exact⟨0,by omega,rfl,by rw[Hn.o];rfl,Hx.o,by omega,HC.o,d,by simp⟩
    case round =>
     clear d K HC Hx hx k0 k1 kf m0 m1 mf aS zb zw aH hi;obtain⟨i,hi,rfl,rfl,hx,aS,K,d,aC⟩:=hrel;rw[Hn.o]at hi;have HC:=ia K;have Hx:=ia hx;have k0:=ja K.2.1 0 (Y V 0 0);have k1:=ja K.2.1 1 (Y V 0 0);have kf:=Vb K.2.1;have m0:=ja K.2.2 0 (Y ga gn gc);have m1:=ja K.2.2 1 (Y va vn vc);have mf:=Vb K.2.2;have zb:a<wr.heap.size:=oM;(have zw:w.heap.size+1<wr.heap.size:=by have:=Hz.o;omega);by_cases aH:i<vn
     ·obtain⟨p,hq⟩:∃q,ps[i]?=C q:=⟨ps[i]'(by rw[Hn.o];omega),by simp[Hn.o,aH]⟩;obtain⟨b,o,s1,l1,u1,rfl,hb,d1,d2,d3,n⟩:=d.at' hq;have bu:Ub wr (Y (C ⟨b,o,V⟩) i vc) (ps.take i):=d.take (by rw[Hn.o];omega) (by rw[Hn.o];omega) oM (nE _);have bp:=aJ.o p (lM hq);have aM:=ia (fun W (hW:oa wr W)=>yA W (Y ga gn gc) (Y (C ⟨b,o,V⟩) i vc) (F (Jd p s1 l1 u1)) g (ps.take i) p (ba.o _ (hx.trans hW)) (bu.i hW) ⟨_,_,_,rfl,d1.i hW,d2.i hW,d3.i hW⟩ (pp aw.o) (fun q h=>aJ.o q (List.mem_of_mem_take h)) bp);obtain⟨aj,al,ak,rfl⟩:=Ia d1;obtain⟨ac,af,ae,rfl⟩:=Ia d2;obtain⟨ag,ai,ah,rfl⟩:=Ia d3;obtain⟨cb,f1⟩:=gX (kd g (ps.take i) p);rw[f1]at aM;unfold Jd at aM;have aQ:=n 0 (.string p.name) rfl;have bX:=n 1 (Y aj al ak) rfl;have bY:=n 2 (O Z p.depth) rfl;have bZ:=n 3 (O Z p.density) rfl;have b0:=n 4 (O Z p.gx) rfl;have b1:=n 5 (O Z p.gz) rfl;have b2:=n 6 (O Z p.way) rfl;have b3:=n 7 (O Z p.ax) rfl;have b5:=n 8 (O Z p.az) rfl;have b6:=n 9 (O A p.skin) rfl;have cl:=n 10 (Y ac af ae) rfl;have cm:=n 11 (Y ag ai ah) rfl;simp only[Nat.add_zero]at aQ;have Hq:=ia hq;have a6:=ia aC;have F1:=ia f1;have a7:=ia d;have p0:(0:Int)<=(i:Int):=oM;have p1:(i:Int)<=(vc:Int):=oM;have p2:i<=vc:=oM;clear n hq aC f1 d bu bp d1 d2 d3 K hx;go_wp2;refine Ke [(⟨a,0,V⟩,Y ga gn gc),(⟨a,1,V⟩,Y (C ⟨b,o,V⟩) vn vc),(⟨wr.heap.size,0,V⟩,.string p.name),(⟨wr.heap.size,1,V⟩,Y aj al ak),(⟨wr.heap.size,2,V⟩,O Z p.depth),(⟨wr.heap.size,3,V⟩,O Z p.density),(⟨wr.heap.size,4,V⟩,O Z p.gx),(⟨wr.heap.size,5,V⟩,O Z p.gz),(⟨wr.heap.size,6,V⟩,O Z p.way),(⟨wr.heap.size,7,V⟩,O Z p.ax),(⟨wr.heap.size,8,V⟩,O Z p.az),(⟨wr.heap.size,9,V⟩,O A p.skin),(⟨wr.heap.size,10,V⟩,Y ac af ae),(⟨wr.heap.size,11,V⟩,Y ag ai ah)] cA fun bc=>?_;refine sN 0 ?_
      (iterate 8 refine Fc ?_);refine oN ?_;refine Ec (i:=8) (aM.o _ eA) ?_;rintro e l ⟨rfl,s⟩;refine⟨_,rfl,(cE bc s),fun bc=>?_⟩;refine Ac (i:=9) ?_;refine Wd ?_;have X5:oa wr l:=eA;have K5:=X5.e HC.o.2.1;have y0:=ja K5 0 (Y V 0 0);have y1:=ja K5 1 (Y V 0 0);have yf:=Vb K5;cases cb with
      |false=>
       (have e:pb g ps=12:=by rw[E3.o,a6.o,ZJ Hq.o F1.o]);have E2:=ia e;clear e;have hx:=Hx.o;go_wp2;have X5:oa wr l:=eA;have K5:=X5.e HC.o.2.1;have x0:=ja K5 0 (Y V 0 0);have x1:=ja K5 1 (Y V 0 0);have xf:=Vb K5;refine bR (v:=L #[F #[Y V 0 0,Y V 0 0],O Z 12]) (by simp[results,Tryz.results43,go_sem,x0,x1,xf]) rfl ?_;rw[<-HR.o];exact .inl ⟨by rw[E2.o];decide,by rw[E2.o];rfl,eA⟩
      |true=>
       go_wp2;go_roundg (vn-(i+1))
       case measure=>have:=Hn.o;omega
       case rel=>exact⟨i+1,by rw[Hn.o];omega,by go_num,by rw[Hn.o],Hx.o.trans X5,nT aS X5.size,HC.o.ext X5,a7.o.i X5,a6.o.trans (gJ Hq.o F1.o)⟩
     ·obtain rfl:i=vn:=oM;have e2:ps.drop i=[]:=List.drop_of_length_le (by rw[Hn.o];exact nE _);rw[e2]at aC;(have e:pb g ps=0:=by rw[E3.o,aC];cases ps.take i<;>rfl);have E2:=ia e;(have bs:w.heap.size+1≠a:=by have:=Hz.o;omega);clear e e2 aC K;go_wp2;refine bR (v:=L #[F #[Y ga gn gc,Y va i vc],O Z 0]) (by simp[results,Tryz.results43,go_sem,k0,k1,kf,m0,m1,bs]) rfl ?_;rw[<-HR.o];have hN:∀T,T≠110->Wc T wr (w.heap.size+1):=fun T hT cs fr h=>by
       rw[HC.o.2.1]at h;cases h;exact hT rfl
      have hK:∀T u u',T≠110->Fa T wr ((wr.setCell ⟨w.heap.size+1,0,V⟩ u).setCell ⟨w.heap.size+1,1,V⟩ u'):=fun T u u' hT=>((Fa.refl _ wr).D (hN T hT) _).D ((hN T hT).set _ _) _;exact .inr ⟨E2.o,_,rfl,Sl.keep d (fun _ _ h=>nj.keep h (hK _ _ _ dM)) (hK _ _ _ dM),(Hx.o.set dO _).set dO _⟩
end
section
open Go.RowKit Go.Shelf
attribute [local go_sem] Oper.semAt_some
def SJ(w:I)(v:M)(q:Rat)(h:La w v q)(hl:Rb mc q)(h0:0<=q.num):Calls Tryz.prog 111 #[v] w (qi w q.floor):=by
 obtain⟨a,m,c,s,a2,m2,c2,rfl⟩:=h.form;rw[Rat.floor_def];have HB:=ia (fun(W:I)(hW:oa w W)=>im W _ q (h.ext hW) (hl.mono dM));have HQ:=ia (fun(W:I)(hW:oa w W)(v:M)(hv:Nc W v (q.den:Int))=>It W (F #[Y a m c,N s]) v q.num (q.den:Int) (h.top.ext hW) hv (hl.1.mono dM) (hl.2.mono dM) (by have:=q.den_pos;omega) (.inl h0));clear h hl h0;go_in;go_upto_region 1 with fail;obtain⟨n,b⟩:=gX ((w.alloc (J #[Y a m c,N s,Y a2 m2 c2] 43)).alloc (J #[Y V 0 0,N false] 41));have X0:oa w n:=by rw[<-b];exact((eR w).alloc _).alloc _
 have kr:n.heap[w.heap.size+1]?=C (J #[Y V 0 0,N false] 41 (0,0)):=by rw[<-b];exact Kc _ _ _ sM
 have C0:Ca [(⟨w.heap.size,0,V⟩,Y a m c),(⟨w.heap.size,1,V⟩,N s),(⟨w.heap.size,2,V⟩,Y a2 m2 c2)] n.drew:=by
  rw[<-b];clear b;refine⟨?_,?_,?_,trivial⟩<;>go_simp
 rw[b];clear b;refine Cs [(9,3,J #[Y V 0 0,N false] 41 (0,0)),(10,4,J #[Y V 0 0,N false] 41 (0,0))] _ 12 3 (fun i=>decide (10<i)) (fun i=>i==7 || i==8) kM kM kM sM kM (by intro x hx;simp only[List.mem_cons,List.not_mem_nil,or_false]at hx;rcases hx with rfl|rfl<;>exact⟨_,rfl,rfl,fun a W=>by go_simp⟩) (fun _ _ d _ _ h=>by cases d<;>exact h) C0 (fun r=>?_);refine pg (i:=0) ?_;refine pg (i:=1) ?_;refine pg (i:=2) ?_;refine li (i:=3) fun W3 j ab t K g=>?_;go_simp;refine cM (HB.o W3 (X0.drew.trans j)) ?_;rintro e w3 ⟨v3,rfl,y,P⟩;obtain⟨a3,m3,c3,s3,rfl⟩:=y.form;go_wp2;refine kO g (.of ab P) (fun _ _=>?_);clear g K t;refine li (i:=4) fun W4 k ac t K g=>?_;go_simp;refine cM (HQ.o W4 (X0.drew.trans (j.trans (P.trans k))) _ (y.ext k)) ?_;rintro e w4 ⟨v4,v5,rfl,z,ad,ae⟩;obtain⟨⟨T,m4,c4,s4,rfl⟩,a5,m5,c5,s5,rfl⟩:=And.intro z.form ad.form;go_wp2;refine kO g (.of ac ae) (fun _ _=>?_);clear g K t;refine pg (i:=5) ?_;refine pg (i:=6) ?_;refine pg (i:=7) ?_;refine pg (i:=8) ?_;refine df kM (fun W5 o l=>?_);intro b5 q5 y5 _ _ b6 q6 y6 R _;have R:b6≠b5:=by simpa using R
 have X5:oa n W5:=(eR n).drew.trans l;have h4:=z.ext o;have zk:=jc kr;have af:n.heap.size<=b5:=by simpa using y5
 have ag:n.heap.size<=b6:=by simpa using y6
 have xf:=Vb q5;have yf:=Vb q6;have x0:=ja q5 0 (Y V 0 0);have x1:=ja q5 1 (N false);have u0:=ja q6 0 (Y V 0 0);have u1:=ja q6 1 (N false);clear j P k ae o y z ad;refine Je (i:=11) fun K g=>?_;go_simp;refine kO g (cE r (by(repeat refine oa.set ?_ (by first|exact y5|exact y6) _);exact l)) (fun aa=>?_);clear g K;refine Je (i:=12) fun K g=>?_;go_simp;refine kO g (cE r (by(repeat refine oa.set ?_ (by first|exact y5|exact y6) _);exact l)) (fun aa=>?_);clear g K;refine Ac (i:=13) ?_;refine Wd ?_;clear x0 x1 u0 u1 xf yf;obtain⟨W6,u⟩:=gX (Xg (Xg W5 b5 0 [Y T m4 c4,N s4]) b6 0 [Y a5 m5 c5,N s5]);have e6:(((W5.setCell ⟨b5,0,V⟩ (Y T m4 c4)).setCell ⟨b5,1,V⟩ (N s4)).setCell ⟨b6,0,V⟩ (Y a5 m5 c5)).setCell ⟨b6,1,V⟩ (N s5)=W6:=u;rw[e6];have TB:=Lr (cs:=[Y V 0 0,N false]) (ds:=[Y V 0 0,N false]) [Y T m4 c4,N s4] [Y a5 m5 c5,N s5] q5 q6 R rfl rfl;rw[u]at TB;obtain⟨K5,K6,tb,tk,te⟩:=TB;have X6:=te n X5 af ag;have h6:=h4.keep (tk 2 dM dM);have f:=X6.e kr;have zr:=jc f;have z5:=jc K5;have c0:=ja K5 0 (Y T m4 c4);have c1:=ja K5 1 (N s4);have r0:=ja f 0 (Y V 0 0);have r1:=ja f 1 (N false);have rf:=Vb f;have kp:Fa 2 W6 ((W6.setCell ⟨w.heap.size+1,0,V⟩ (Y T m4 c4)).setCell ⟨w.heap.size+1,1,V⟩ (N s4)):=by
  have hn:Wc 2 W6 (w.heap.size+1):=by intro cs fr e;rw[f]at e;cases e
  exact((Fa.refl _ W6).D hn _).D (hn.set _ _) _
 clear u e6 tb tk te h4 X5 q5 q6 f K5 K6 kr l aa r C0;go_wp2;exact bR (v:=F #[Y T m4 c4,N s4]) (by simp[results,Tryz.results111,go_sem,zr,r0,r1,rf]) rfl ⟨_,rfl,h6.keep kp,((X0.trans X6).set (p:=⟨w.heap.size+1,0,V⟩) (Nat.le_succ _) _).set (p:=⟨w.heap.size+1,1,V⟩) (Nat.le_succ _) _⟩
def MF(w:I)(v:M)(n:Int)(h:Nc w v n)(h0:0<=n)(h1:n<281474976710656):Calls Tryz.prog 112 #[v] w fun e o=>e=.returned (L #[O Z n,N true])/\oa w o:=by
 obtain⟨a,m,c,s,rfl⟩:=h.form;have hs:s=false:=by rw[h.sgn];simp;omega
 subst hs;have hl:Lm Cc n:=Lm.mono (j:=2) ⟨by unfold B;omega,by unfold B;omega⟩ dM;have r:Lm Cc (-9223372036854775808):=Lm.mono (j:=3) ⟨by unfold B;omega,by unfold B;omega⟩ dM;have t:Lm Cc 9223372036854775807:=Lm.mono (j:=3) ⟨by unfold B;omega,by unfold B;omega⟩ dM;have K:=ia (fun(W:I)=>Po W (-9223372036854775808) dM dM);have P:=ia (fun(W:I)=>Po W 9223372036854775807 dM dM);have y:=ia (fun(W:I)(p:oa w W)(v:M)(hv:Nc W v (-9223372036854775808))=>(Ex W (F #[Y a m c,N false]) v n (-9223372036854775808) (h.ext p) hv hl r).mono fun e o (q:e=.returned (O Z (n - -9223372036854775808).sign)/\oa W o)=>(show e=.returned (O Z 1)/\oa W o from by rw[Int.sign_eq_one_of_pos oM]at q;exact q));have z:=ia (fun(W:I)(p:oa w W)(v:M)(hv:Nc W v 9223372036854775807)=>(Ex W (F #[Y a m c,N false]) v n 9223372036854775807 (h.ext p) hv hl t).mono fun e o (q:e=.returned (O Z (n-9223372036854775807).sign)/\oa W o)=>(show e=.returned (O Z (-1))/\oa W o from by rw[Int.sign_eq_neg_one_of_neg oM]at q;exact q));have HW:=ia (fun(W:I)(p:oa w W)=>Kr W (F #[Y a m c]) n (by have:=h.dig;rw[show ((n.natAbs:Nat):Int)=n by omega]at this;exact this.ext p) ⟨by unfold B;omega,by unfold B;omega⟩);clear h hl r t;go_in;go_wp2;refine Ke [(⟨w.heap.size,0,V⟩,Y a m c),(⟨w.heap.size,1,V⟩,N false)] cA fun b=>?_;refine Ac (i:=0) ?_;refine Ec (i:=1) (K.o _) ?_;rintro e w1 ⟨r1,rfl,d,u⟩;obtain⟨a1,m1,c1,s1,rfl⟩:=d.form;refine⟨_,rfl,(cE b u),fun b=>?_⟩;have R:oa w w1:=eA;refine Ec (i:=2) (y.o _ R _ d) ?_;rintro e w2 ⟨rfl,g⟩;refine⟨_,rfl,(cE b g),fun b=>?_⟩;have X2:oa w w2:=R.trans g;refine sN 3 ?_
 iterate 3 refine Fc ?_
 refine oN ?_;refine Ec (i:=6) (P.o _) ?_;rintro e w6 ⟨r6,rfl,f,k⟩;obtain⟨a6,m6,c6,s6,rfl⟩:=f.form;refine⟨_,rfl,(cE b k),fun b=>?_⟩;have T:oa w w6:=X2.trans k;refine Ec (i:=7) (z.o _ T _ f) ?_;rintro e w7 ⟨rfl,l⟩;refine⟨_,rfl,(cE b l),fun b=>?_⟩;have X7:oa w w7:=T.trans l;refine sN 8 ?_
 iterate 2 refine Fc ?_
 refine oN ?_;refine Wd ?_;obtain⟨d0,d1,_⟩:=b;have e1:IntKind.i64.wrap n=n:=iW _ oM;clear u g k l R X2 T d f;go_wp2_with((go_at_call 175;refine cM (HW.o _ X7) ?_;rintro e w8 ⟨rfl,x⟩;obtain⟨aa,ab⟩:=x.cells;(have z8:w.heap.size<w7.heap.size:=World.block_lt_of_cell? _ _ d0)));refine bR (v:=L #[O Z n,N true]) (by simp[results,Tryz.results112,go_sem]) rfl ?_;exact⟨rfl,X7.trans x⟩
end
section
open Go.RowKit Go.Shelf Go.Sort Go.Lib
def Ny{g:LP}:∀{c done:List Pl},Ed g done c=0->∀p∈c,Ea p=true
 | [],_,_,p,b=>by cases b
 | q::r,done,h,p,b=>by
  unfold Ed at h;by_cases a:Cg g done q=0
  ·rw[if_pos a]at h;rcases List.mem_cons.1 b with rfl|b
   ·cases hk:Ea p with
    | true=>rfl
    | false=>unfold Cg at a;rw[hk]at a;simp at a
   ·exact Ny h p b
  ·rw[if_neg a]at h;exact absurd h a
def Ui{g:LP}{ps:List Pl}(h:pb g ps=0):(∀p∈ps,Ea p=true)/\ps.length<=120/\ub g=true:=by
 unfold pb at h;cases hg:ub g with
 | false=>rw[hg]at h;simp at h
 |true=>
  rw[hg,if_pos rfl]at h;by_cases b:120<ps.length
  ·rw[if_pos b]at h;exact absurd h dM
  ·rw[if_neg b]at h;by_cases a:Ed g [] ps=0
   ·exact⟨Ny a,by omega,rfl⟩
   ·rw[if_neg a]at h;exact absurd h a
def Ji(w:I)(base:Nat)(v:M)(ps:List Pl):Prop:=∃cs,Ga 72 10 w base v cs/\cs.length=ps.length/\∀(i:Nat) c p,cs[i]?=C c->ps[i]?=C p->Tk w c p
def Ji.pls{w:I}{base:Nat}{v:M}{ps:List Pl}(h:Ji w base v ps):td w v ps:=by obtain⟨d,a,b,c⟩:=h;exact a.sl b c
end
section
open Go.RowKit Go.Shelf Go.Sort Go.Lib
attribute [local go_sem] Oper.semAt_some
def UH(w:I)(v1 v2:M)(p q:Pl)(h1:Aa w v1 p.shape)(h2:Aa w v2 q.shape)(k1:0<=p.skin)(k2:0<=q.skin)(aw:Gw w)(o1:Ea p=true)(o2:Ea q=true):Calls Tryz.prog 81 #[F (pe p v1),F (pe q v2)] w fun e w'=>∃r1 r2,e=.returned (L #[r1,r2,N true])/\Qd w' r1 p/\Qd w' r2 q/\oa w w':=by
 have aq:=ia (fun(W:I)(hW:oa w W)=>Bs W p _ (h1.i hW) k1);have ar:=ia (fun(W:I)(hW:oa w W)=>Bs W q _ (h2.i hW) k2);rw[if_pos o1]at aq;rw[if_pos o2]at ar;have au:=ia (fun(W:I)(hW:oa w W)=>Rr W p _ (h1.i hW) o1 (aw.ext hW));have av:=ia (fun(W:I)(hW:oa w W)=>Rr W q _ (h2.i hW) o2 (aw.ext hW));have H1:=ia h1;have H2:=ia h2;obtain⟨f,j,g,rfl⟩:=Ia h1;obtain⟨k,m,l,rfl⟩:=Ia h2;clear h1 h2 k1 k2 aw o1 o2;unfold pe at aq ar au av ⊢;unfold Rk Jd at au av;go_in;go_upto_region 3 with (first|(go_at_call 103;(with_reducible refine(aq.o _ ?_).mono ?_);exact eA;rintro e w5 ⟨rfl,ay⟩;obtain⟨aM,aP⟩:=ay.cells;(have z5:=ay.size);(try simp only[wZ]at z5);(have aU:w.heap.size<w5.heap.size:=oM);(have aV:w.heap.size+1<w5.heap.size:=oM))|(go_at_call 103;(with_reducible refine(ar.o _ ?_).mono ?_);exact eA;rintro e u ⟨rfl,aA⟩;obtain⟨aO,aQ⟩:=aA.cells;(have z6:=aA.size);(try simp only[wZ]at z6);(have aW:w.heap.size<u.heap.size:=oM);(have aX:w.heap.size+1<u.heap.size:=oM)));have X0:oa w u:=eA;clear X0;have A1:u.heap[w.heap.size]?=C (J #[.string p.name,Y f j g,O Z p.depth,O Z p.density,O Z p.gx,O Z p.gz,O Z p.way,O Z p.ax,O Z p.az,O A p.skin] 72 (0,0)):=oa.e (a:=w.alloc (J #[.string p.name,Y f j g,O Z p.depth,O Z p.density,O Z p.gx,O Z p.gz,O Z p.way,O Z p.ax,O Z p.az,O A p.skin] 72)) eA (aN _ _);have A2:u.heap[w.heap.size+1]?=C (J #[.string q.name,Y k m l,O Z q.depth,O Z q.density,O Z q.gx,O Z q.gz,O Z q.way,O Z q.ax,O Z q.az,O A q.skin] 72 (0,0)):=oa.e (a:=(w.alloc (J #[.string p.name,Y f j g,O Z p.depth,O Z p.density,O Z p.gx,O Z p.gz,O Z p.way,O Z p.ax,O Z p.az,O A p.skin] 72)).alloc (J #[.string q.name,Y k m l,O Z q.depth,O Z q.density,O Z q.gx,O Z q.gz,O Z q.way,O Z q.ax,O Z q.az,O A q.skin] 72)) eA (Kc _ _ _ sM);have A3:u.heap[w.heap.size+1+1]?=C (J #[.string ⟨#[]⟩,Y V 0 0,O Z 0,O Z 0,O Z 0,O Z 0,O Z 0,O Z 0,O Z 0,O A 0,Y V 0 0,Y V 0 0] 118 (0,0)):=oa.e (a:=((w.alloc (J #[.string p.name,Y f j g,O Z p.depth,O Z p.density,O Z p.gx,O Z p.gz,O Z p.way,O Z p.ax,O Z p.az,O A p.skin] 72)).alloc (J #[.string q.name,Y k m l,O Z q.depth,O Z q.density,O Z q.gx,O Z q.gz,O Z q.way,O Z q.ax,O Z q.az,O A q.skin] 72)).alloc (J #[.string ⟨#[]⟩,Y V 0 0,O Z 0,O Z 0,O Z 0,O Z 0,O Z 0,O Z 0,O Z 0,O A 0,Y V 0 0,Y V 0 0] 118)) eA (Kc _ _ _ sM);have A4:u.heap[w.heap.size+1+1+1]?=C (J #[.string ⟨#[]⟩,Y V 0 0,O Z 0,O Z 0,O Z 0,O Z 0,O Z 0,O Z 0,O Z 0,O A 0,Y V 0 0,Y V 0 0] 118 (0,0)):=oa.e (a:=(((w.alloc (J #[.string p.name,Y f j g,O Z p.depth,O Z p.density,O Z p.gx,O Z p.gz,O Z p.way,O Z p.ax,O Z p.az,O A p.skin] 72)).alloc (J #[.string q.name,Y k m l,O Z q.depth,O Z q.density,O Z q.gx,O Z q.gz,O Z q.way,O Z q.ax,O Z q.az,O A q.skin] 72)).alloc (J #[.string ⟨#[]⟩,Y V 0 0,O Z 0,O Z 0,O Z 0,O Z 0,O Z 0,O Z 0,O Z 0,O A 0,Y V 0 0,Y V 0 0] 118)).alloc (J #[.string ⟨#[]⟩,Y V 0 0,O Z 0,O Z 0,O Z 0,O Z 0,O Z 0,O Z 0,O Z 0,O A 0,Y V 0 0,Y V 0 0] 118)) eA (Kc _ _ _ sM);have X6:oa w u:=eA;clear aM aP z5 aU aV aO aQ z6 aW aX ay aA;have hC:Ca [((⟨w.heap.size,0,V⟩:Addr),(.string p.name:M)),(⟨w.heap.size,1,V⟩,Y f j g),(⟨w.heap.size,2,V⟩,O Z p.depth),(⟨w.heap.size,3,V⟩,O Z p.density),(⟨w.heap.size,4,V⟩,O Z p.gx),(⟨w.heap.size,5,V⟩,O Z p.gz),(⟨w.heap.size,6,V⟩,O Z p.way),(⟨w.heap.size,7,V⟩,O Z p.ax),(⟨w.heap.size,8,V⟩,O Z p.az),(⟨w.heap.size,9,V⟩,O A p.skin),(⟨w.heap.size+1,0,V⟩,.string q.name),(⟨w.heap.size+1,1,V⟩,Y k m l),(⟨w.heap.size+1,2,V⟩,O Z q.depth),(⟨w.heap.size+1,3,V⟩,O Z q.density),(⟨w.heap.size+1,4,V⟩,O Z q.gx),(⟨w.heap.size+1,5,V⟩,O Z q.gz),(⟨w.heap.size+1,6,V⟩,O Z q.way),(⟨w.heap.size+1,7,V⟩,O Z q.ax),(⟨w.heap.size+1,8,V⟩,O Z q.az),(⟨w.heap.size+1,9,V⟩,O A q.skin)] u:=by
  refine⟨Gb A1 (i:=0) rfl,Gb A1 (i:=1) rfl,Gb A1 (i:=2) rfl,Gb A1 (i:=3) rfl,Gb A1 (i:=4) rfl,Gb A1 (i:=5) rfl,Gb A1 (i:=6) rfl,Gb A1 (i:=7) rfl,Gb A1 (i:=8) rfl,Gb A1 (i:=9) rfl,Gb A2 (i:=0) rfl,Gb A2 (i:=1) rfl,Gb A2 (i:=2) rfl,Gb A2 (i:=3) rfl,Gb A2 (i:=4) rfl,Gb A2 (i:=5) rfl,Gb A2 (i:=6) rfl,Gb A2 (i:=7) rfl,Gb A2 (i:=8) rfl,Gb A2 (i:=9) rfl,trivial⟩
 refine Ke [((⟨w.heap.size,0,V⟩:Addr),(.string p.name:M)),(⟨w.heap.size,1,V⟩,Y f j g),(⟨w.heap.size,2,V⟩,O Z p.depth),(⟨w.heap.size,3,V⟩,O Z p.density),(⟨w.heap.size,4,V⟩,O Z p.gx),(⟨w.heap.size,5,V⟩,O Z p.gz),(⟨w.heap.size,6,V⟩,O Z p.way),(⟨w.heap.size,7,V⟩,O Z p.ax),(⟨w.heap.size,8,V⟩,O Z p.az),(⟨w.heap.size,9,V⟩,O A p.skin),(⟨w.heap.size+1,0,V⟩,.string q.name),(⟨w.heap.size+1,1,V⟩,Y k m l),(⟨w.heap.size+1,2,V⟩,O Z q.depth),(⟨w.heap.size+1,3,V⟩,O Z q.density),(⟨w.heap.size+1,4,V⟩,O Z q.gx),(⟨w.heap.size+1,5,V⟩,O Z q.gz),(⟨w.heap.size+1,6,V⟩,O Z q.way),(⟨w.heap.size+1,7,V⟩,O Z q.ax),(⟨w.heap.size+1,8,V⟩,O Z q.az),(⟨w.heap.size+1,9,V⟩,O A q.skin)] hC fun n=>?_;refine Ac (i:=0) ?_;refine Ac (i:=2) ?_;refine Ec (i:=1) (au.o _ X6.drew) ?_;rintro e w7 ⟨vl,vu,rfl,aI,aJ,aK⟩;obtain⟨⟨z,ab,T,rfl⟩,ae,ai,ag,rfl⟩:=And.intro (Ia aI) (Ia aJ);refine⟨_,rfl,(cE n aK),fun n=>?_⟩;have X7:oa u w7:=(eR u).drew.trans aK;refine Ec (i:=3) (av.o _ (X6.trans X7)) ?_;rintro e w8 ⟨aY,aZ,rfl,ao,ap,am⟩;obtain⟨⟨R,ac,aa,rfl⟩,af,aj,ah,rfl⟩:=And.intro (Ia ao) (Ia ap);refine⟨_,rfl,(cE n am),fun n=>?_⟩;have X8:oa u w8:=X7.trans am;have r:=X8.e A3;have c:=X8.e A4;have x0:=ja r 0 (.string ⟨#[]⟩);have x1:=ja r 1 (Y V 0 0);have x2:=ja r 2 (O Z 0);have x3:=ja r 3 (O Z 0);have x4:=ja r 4 (O Z 0);have x5:=ja r 5 (O Z 0);have x6:=ja r 6 (O Z 0);have x7:=ja r 7 (O Z 0);have x8:=ja r 8 (O Z 0);have x9:=ja r 9 (O A 0);have aB:=ja r 10 (Y V 0 0);have aC:=ja r 11 (Y V 0 0);have y0:=ja c 0 (.string ⟨#[]⟩);have y1:=ja c 1 (Y V 0 0);have y2:=ja c 2 (O Z 0);have y3:=ja c 3 (O Z 0);have y4:=ja c 4 (O Z 0);have y5:=ja c 5 (O Z 0);have y6:=ja c 6 (O Z 0);have y7:=ja c 7 (O Z 0);have y8:=ja c 8 (O Z 0);have y9:=ja c 9 (O A 0);have ak:=ja c 10 (Y V 0 0);have al:=ja c 11 (Y V 0 0);have xf:=Vb r;have yf:=Vb c;have aH:∀b,w.heap.size+1<b->∀ad∈[((⟨w.heap.size,0,V⟩:Addr),(.string p.name:M)),(⟨w.heap.size,1,V⟩,Y f j g),(⟨w.heap.size,2,V⟩,O Z p.depth),(⟨w.heap.size,3,V⟩,O Z p.density),(⟨w.heap.size,4,V⟩,O Z p.gx),(⟨w.heap.size,5,V⟩,O Z p.gz),(⟨w.heap.size,6,V⟩,O Z p.way),(⟨w.heap.size,7,V⟩,O Z p.ax),(⟨w.heap.size,8,V⟩,O Z p.az),(⟨w.heap.size,9,V⟩,O A p.skin),(⟨w.heap.size+1,0,V⟩,.string q.name),(⟨w.heap.size+1,1,V⟩,Y k m l),(⟨w.heap.size+1,2,V⟩,O Z q.depth),(⟨w.heap.size+1,3,V⟩,O Z q.density),(⟨w.heap.size+1,4,V⟩,O Z q.gx),(⟨w.heap.size+1,5,V⟩,O Z q.gz),(⟨w.heap.size+1,6,V⟩,O Z q.way),(⟨w.heap.size+1,7,V⟩,O Z q.ax),(⟨w.heap.size+1,8,V⟩,O Z q.az),(⟨w.heap.size+1,9,V⟩,O A q.skin)],b≠ad.1.block:=by
  intro b hb ad hq;simp only[List.mem_cons,List.not_mem_nil,or_false]at hq;rcases hq with rfl|rfl|rfl|rfl|rfl|rfl|rfl|rfl|rfl|rfl|rfl|rfl|rfl|rfl|rfl|rfl|rfl|rfl|rfl|rfl<;>(dsimp only;omega)
 have aR:=aH (w.heap.size+1+1) oM;have aS:=aH (w.heap.size+1+1+1) oM;refine Je (i:=4) fun K hK=>?_;go_simp;refine kO hK (by(iterate 12 refine Ca.set ?_ aR _);exact n) (fun n=>?_);clear hK K;clear x0 x1 x2 x3 x4 x5 x6 x7 x8 x9 aB aC y0 y1 y2 y3 y4 y5 y6 y7 y8 y9 ak al xf yf;obtain⟨y,t⟩:=gX (Xg w8 (w.heap.size+1+1) 0 [.string p.name,Y f j g,O Z p.depth,O Z p.density,O Z p.gx,O Z p.gz,O Z p.way,O Z p.ax,O Z p.az,O A p.skin,Y z ab T,Y ae ai ag]);have e9:((((((((((((w8.setCell ⟨w.heap.size+1+1,0,V⟩ (.string p.name)).setCell ⟨w.heap.size+1+1,1,V⟩ (Y f j g)).setCell ⟨w.heap.size+1+1,2,V⟩ (O Z p.depth)).setCell ⟨w.heap.size+1+1,3,V⟩ (O Z p.density)).setCell ⟨w.heap.size+1+1,4,V⟩ (O Z p.gx)).setCell ⟨w.heap.size+1+1,5,V⟩ (O Z p.gz)).setCell ⟨w.heap.size+1+1,6,V⟩ (O Z p.way)).setCell ⟨w.heap.size+1+1,7,V⟩ (O Z p.ax)).setCell ⟨w.heap.size+1+1,8,V⟩ (O Z p.az)).setCell ⟨w.heap.size+1+1,9,V⟩ (O A p.skin)).setCell ⟨w.heap.size+1+1,10,V⟩ (Y z ab T)).setCell ⟨w.heap.size+1+1,11,V⟩ (Y ae ai ag))=y:=t;rw[e9]at n ⊢;have aT:Wc 55 w8 (w.heap.size+1+1):=fun cs fr h=>by rw[r]at h;cases h
 have s:y.heap[w.heap.size+1+1]?=C (J #[.string p.name,Y f j g,O Z p.depth,O Z p.density,O Z p.gx,O Z p.gz,O Z p.way,O Z p.ax,O Z p.az,O A p.skin,Y z ab T,Y ae ai ag] 118 (0,0)):=by
  rw[<-t];exact Qo _ r rfl
 have D9:y.heap[w.heap.size+1+1+1]?=w8.heap[w.heap.size+1+1+1]?:=by
  rw[<-t];exact Wl oM _ _ _
 have aG:Fa 55 w8 y:=by
  rw[<-t];exact Ql _ _ aT
 have E9:∀v:I,oa v w8->v.heap.size<=w.heap.size+1+1->oa v y:=fun v XE hz=>by
  rw[<-t];exact Jo hz _ _ XE
 clear e9 t;have c:=D9.trans c;have y0:=ja c 0 (.string ⟨#[]⟩);have y1:=ja c 1 (Y V 0 0);have y2:=ja c 2 (O Z 0);have y3:=ja c 3 (O Z 0);have y4:=ja c 4 (O Z 0);have y5:=ja c 5 (O Z 0);have y6:=ja c 6 (O Z 0);have y7:=ja c 7 (O Z 0);have y8:=ja c 8 (O Z 0);have y9:=ja c 9 (O A 0);have ak:=ja c 10 (Y V 0 0);have al:=ja c 11 (Y V 0 0);have yf:=Vb c;refine Je (i:=5) fun K hK=>?_;go_simp;refine kO hK (by(iterate 12 refine Ca.set ?_ aS _);exact n) (fun n=>?_);clear hK K;clear y0 y1 y2 y3 y4 y5 y6 y7 y8 y9 ak al yf;obtain⟨x,o⟩:=gX (Xg y (w.heap.size+1+1+1) 0 [.string q.name,Y k m l,O Z q.depth,O Z q.density,O Z q.gx,O Z q.gz,O Z q.way,O Z q.ax,O Z q.az,O A q.skin,Y R ac aa,Y af aj ah]);have aF:((((((((((((y.setCell ⟨w.heap.size+1+1+1,0,V⟩ (.string q.name)).setCell ⟨w.heap.size+1+1+1,1,V⟩ (Y k m l)).setCell ⟨w.heap.size+1+1+1,2,V⟩ (O Z q.depth)).setCell ⟨w.heap.size+1+1+1,3,V⟩ (O Z q.density)).setCell ⟨w.heap.size+1+1+1,4,V⟩ (O Z q.gx)).setCell ⟨w.heap.size+1+1+1,5,V⟩ (O Z q.gz)).setCell ⟨w.heap.size+1+1+1,6,V⟩ (O Z q.way)).setCell ⟨w.heap.size+1+1+1,7,V⟩ (O Z q.ax)).setCell ⟨w.heap.size+1+1+1,8,V⟩ (O Z q.az)).setCell ⟨w.heap.size+1+1+1,9,V⟩ (O A q.skin)).setCell ⟨w.heap.size+1+1+1,10,V⟩ (Y R ac aa)).setCell ⟨w.heap.size+1+1+1,11,V⟩ (Y af aj ah))=x:=o;rw[aF]at n ⊢;have aL:Wc 55 y (w.heap.size+1+1+1):=fun cs fr h=>by rw[c]at h;cases h
 have d:x.heap[w.heap.size+1+1+1]?=C (J #[.string q.name,Y k m l,O Z q.depth,O Z q.density,O Z q.gx,O Z q.gz,O Z q.way,O Z q.ax,O Z q.az,O A q.skin,Y R ac aa,Y af aj ah] 118 (0,0)):=by
  rw[<-o];exact Qo _ c rfl
 have aD:x.heap[w.heap.size+1+1]?=y.heap[w.heap.size+1+1]?:=by
  rw[<-o];exact Wl oM _ _ _
 have an:Fa 55 y x:=by
  rw[<-o];exact Ql _ _ aL
 have aE:∀v:I,oa v y->v.heap.size<=w.heap.size+1+1+1->oa v x:=fun v XE hz=>by
  rw[<-o];exact Jo hz _ _ XE
 clear aF o;have s:=aD.trans s;refine Ac (i:=6) ?_;refine Wd ?_;have x0:=ja s 0 (.string p.name);have x1:=ja s 1 (Y f j g);have x2:=ja s 2 (O Z p.depth);have x3:=ja s 3 (O Z p.density);have x4:=ja s 4 (O Z p.gx);have x5:=ja s 5 (O Z p.gz);have x6:=ja s 6 (O Z p.way);have x7:=ja s 7 (O Z p.ax);have x8:=ja s 8 (O Z p.az);have x9:=ja s 9 (O A p.skin);have aB:=ja s 10 (Y z ab T);have aC:=ja s 11 (Y ae ai ag);have y0:=ja d 0 (.string q.name);have y1:=ja d 1 (Y k m l);have y2:=ja d 2 (O Z q.depth);have y3:=ja d 3 (O Z q.density);have y4:=ja d 4 (O Z q.gx);have y5:=ja d 5 (O Z q.gz);have y6:=ja d 6 (O Z q.way);have y7:=ja d 7 (O Z q.ax);have y8:=ja d 8 (O Z q.az);have y9:=ja d 9 (O A q.skin);have ak:=ja d 10 (Y R ac aa);have al:=ja d 11 (Y af aj ah);have xf:=Vb s;have yf:=Vb d;have XE:=aE w (E9 w (X6.trans X8) oM) oM;have hK:=aG.trans an;have P:=ia (And.intro XE hK);clear E9 aE aG an XE hK D9 aD;go_wp2;refine bR (v:=L #[F #[.string p.name,Y f j g,O Z p.depth,O Z p.density,O Z p.gx,O Z p.gz,O Z p.way,O Z p.ax,O Z p.az,O A p.skin,Y z ab T,Y ae ai ag],F #[.string q.name,Y k m l,O Z q.depth,O Z q.density,O Z q.gx,O Z q.gz,O Z q.way,O Z q.ax,O Z q.az,O A q.skin,Y R ac aa,Y af aj ah],N true]) (by simp[results,Tryz.results81,go_sem,x0,x1,x2,x3,x4,x5,x6,x7,x8,x9,aB,aC,xf,y0,y1,y2,y3,y4,y5,y6,y7,y8,y9,ak,al,yf]) rfl ?_;have XW:=X6.trans X8;exact⟨_,_,rfl,⟨_,_,_,rfl,(H1.o.i XW).G P.o.2,(aI.i am).G P.o.2,(aJ.i am).G P.o.2⟩,⟨_,_,_,rfl,(H2.o.i XW).G P.o.2,ao.G P.o.2,ap.G P.o.2⟩,P.o.1⟩
end
section
open Go.RowKit Go.Shelf Go.Sort Go.Lib
def PI(_:I)(c:List M)(z:Int):Prop:=c=[O Z z]
abbrev Wk(w:I)(v:M)(zs:List Int):Prop:=Sl 3 1 PI w v zs
def Wk.i{w w':I}{v:M}{zs:List Int}(h:Wk w v zs)(k:oa w w'):Wk w' v zs:=Sl.ext h (fun _ _ h=>h) k
def Wk.at'{w:I}{a:Option Addr}{n c:Nat}{zs:List Int}(h:Wk w (Y a n c) zs){i:Nat}{z:Int}(g:zs[i]?=C z):∃b o,a=C ⟨b,o,V⟩/\b<w.heap.size/\w.cell? ⟨b,o+i,V⟩=C (O Z z):=by obtain⟨b,o,d,rfl,e,j,rfl,f⟩:=Sl.at h g;have:=f 0 _ rfl;rw[Nat.mul_one,Nat.add_zero]at this;exact⟨b,o,rfl,e,this⟩
end
section
open Go.RowKit Go.Shelf Go.Sort
def Sw(W:I){k:Nat}(d:k=W.heap.size)(ps:LP)(e:ps.length<=1000):Aa (W.alloc (J (ps.map pc).flatten.toArray 55)) (Y (C ⟨k,0,V⟩) ps.length ps.length) ps:=by
 subst d;exact⟨ps.map pc,by simp,Bo,⟨by rw[yk Bo];simp,C ⟨W.heap.size,0,V⟩,ps.length,rfl,nE _,by unfold maxLen;omega,.inr ⟨W.heap.size,0,_,(0,0),rfl,aN _ _,fun i x a=>by simpa using a⟩⟩,
  fun i c x b a=>by rw[lP,a]at b;cases b;rfl⟩
def rH(W:I){k base:Nat}(m:k=W.heap.size)(l:base<=W.heap.size)(b:List (Pl×M))(n:∀q∈b,Aa W q.2 q.1.shape/\0<=q.1.skin)(o:b.length<=1000):Ji (W.alloc (J (b.map fun q=>(pe q.1 q.2).toList).flatten.toArray 72)) base (Y (C ⟨k,0,V⟩) b.length b.length) (b.map Prod.fst):=by
 subst m;have d:∀c∈(b.map fun q=>(pe q.1 q.2).toList),c.length=10:=fun c g=>by
  obtain⟨q,_,rfl⟩:=List.mem_map.1 g;rfl
 have a:=yk d;rw[lL]at a;refine⟨b.map fun q=>(pe q.1 q.2).toList,⟨d,by rw[a,lL],.inr ⟨W.heap.size,b.length,_,by rw[lL],l,aN _ _,by rw[lL];exact nE _,by unfold maxLen;omega,by rw[List.size_toArray,a],by rw[lL,<-a];exact List.take_length⟩⟩,by simp,?_⟩;intro i c x g j;rw[lP,Option.map_eq_some_iff]at g j;obtain⟨q,e,rfl⟩:=g;obtain⟨p,f,rfl⟩:=j;rw[e]at f;cases f;have:=n q (lM e);exact⟨q.2,rfl,this.1.i ((eR W).alloc _),this.2⟩
def Pe:LP:=[(0,0),(200,0),(200,80),(0,80)]
def uJ(w:I):Calls Tryz.prog 84 #[] w fun e a=>∃v,e=.returned (F #[.string ⟨#[98,114,105,99,107]⟩,v,O Z 100,O Z 2400,O Z 1,O Z 0])/\Aa a v Pe/\oa w a:=by go_in;go_wp2;refine bR (v:=F #[.string ⟨#[98,114,105,99,107]⟩,Y (C ⟨w.heap.size+1,0,V⟩) 4 4,O Z 100,O Z 2400,O Z 1,O Z 0]) (by simp[results,Tryz.results84,go_sem]) rfl ⟨_,rfl,?_,eA⟩;exact Sw _ sM Pe dM
def ib(a:ByteArray)(x z:Int):Pl:=⟨a,Pe,100,2400,1,0,0,x,z,1⟩
def Cj:LP:=[(-1000,0),(1000,0)]
def rh{W:I}{b:Nat}{cs:Array M}{T:TypeId}{a:Nat×Nat}(h:W.heap[b]?=C (J cs T a))(i:Nat)(u:M):(W.setCell ⟨b,i,V⟩ u).heap[b]?=C (J (cs.setIfInBounds i u) T a):=by simp[World.setCell,Array.getElem?_modify,h]
end
section
open Go.RowKit Go.Shelf
attribute [local go_sem] Oper.semAt_some
def Ph(e:Md):Int×Int:=
 ((e.2.1-e.1.1).tdiv (Nat.gcd (e.2.1-e.1.1).natAbs (e.2.2-e.1.2).natAbs:Nat),(e.2.2-e.1.2).tdiv (Nat.gcd (e.2.1-e.1.1).natAbs (e.2.2-e.1.2).natAbs:Nat))
def vd(l:Int)(x a:Rat)(e:Md):Bool:=
 decide (Pb x ((e.1.1:Int):Rat)<0) || (decide (Pb x ((e.1.1:Int):Rat)=0)&&(decide (l<e.1.1)&&decide (0<=Pb x a)))
def xd(ps:LP)(x a:Rat):Int×Int:=((yb ps).takeWhile fun e=>!vd (Ka ps) x a e).foldl (fun _ e=>Ph e) (0,0)
def yq(e:Md):Prop:=(Bd 104000 e.1.1/\Bd 104000 e.1.2/\Bd 104000 e.2.1/\Bd 104000 e.2.2)/\e.1.1<=e.2.1/\e.1≠e.2
abbrev BF:={ e:Md // yq e }
def jh(ps:LP):Prop:=∀e∈yb ps,e.1.1<=e.2.1/\e.1≠e.2
def VL(s:Nat)(e:BF)(a:Act)(W:I):Prop:=
 ∃B,s+1+1+1+1+1+1<=B/\W.heap[B]?=C (J #[O Z e.1.1.1,O Z e.1.1.2] 55 (0,0))/\W.heap[B+1]?=C (J #[O Z e.1.2.1,O Z e.1.2.2] 55 (0,0))/\
  a.tmps.size=73/\a.tmps.getD 3 undef=U (C ⟨s,0,V⟩)/\a.tmps.getD 4 undef=U (C ⟨s+1,0,V⟩)/\a.tmps.getD 5 undef=U (C ⟨s+1+1,0,V⟩)/\a.tmps.getD 7 undef=U (C ⟨s+1+1+1+1,0,V⟩)/\
  a.tmps.getD 8 undef=U (C ⟨B,0,V⟩)/\a.tmps.getD 9 undef=U (C ⟨B+1,0,V⟩)/\a.defers=[]
def rk(w:I)(v:M)(x a:Rat)(o:Int×Int)(W:I):Prop:=
 oa w W/\w.heap.size+1+1+1+1+1+1<=W.heap.size/\W.heap[w.heap.size]?=C (J #[v] 107 (0,0))/\RB W (w.heap.size+1) x/\RB W (w.heap.size+1+1) a/\
  W.heap[w.heap.size+1+1+1]?=C (J #[O Z 0,O Z 0] 55 (0,0))/\W.heap[w.heap.size+1+1+1+1]?=C (J #[O Z o.1,O Z o.2] 55 (0,0))
def sC(w:I)(v:M)(l:Int)(x a:Rat)(pre:List BF)(W:I):Prop:=
 rk w v x a (pre.foldl (fun _ e=>Ph e.1) (0,0)) W/\∀e∈pre,vd l x a e.1=false
def SL(w:I)(v:M)(l:Int)(x a:Rat)(c:Code)(pre:List BF)(W:I):Prop:=
 c = .exit 0/\∃(p:List BF)(e:BF),pre=p++[e]/\rk w v x a (p.foldl (fun _ e=>Ph e.1) (0,0)) W/\(∀e∈p,vd l x a e.1=false)/\vd l x a e.1=true
def rk.ext{w:I}{v:M}{x a:Rat}{o:Int×Int}{W W':I}(h:rk w v x a o W)(k:oa W W'):rk w v x a o W':=
 ⟨h.1.trans k,nT h.2.1 k.size,k.e h.2.2.1,h.2.2.2.1.ext k,h.2.2.2.2.1.ext k,k.e h.2.2.2.2.2.1,k.e h.2.2.2.2.2.2⟩
def rk.sim{w:I}{v:M}{x a:Rat}{o:Int×Int}{W W':I}{B:Nat}(h:rk w v x a o W)(k:Uh B W W')(b:w.heap.size<=B):rk w v x a o W':=
 ⟨k.ext h.1 b,nT h.2.1 k.size,k.heap h.2.2.1,h.2.2.2.1.sim k,h.2.2.2.2.1.sim k,k.heap h.2.2.2.2.2.1,k.heap h.2.2.2.2.2.2⟩
def rk.put{w:I}{v:M}{x d:Rat}{o:Int×Int}{W:I}(h:rk w v x d o W)(a:Int×Int):rk w v x d a ((W.setCell ⟨w.heap.size+1+1+1+1,0,V⟩ (O Z a.1)).setCell ⟨w.heap.size+1+1+1+1,1,V⟩ (O Z a.2)):=by
 obtain⟨f,g,i,j,k,h6,c⟩:=h;have b:Wc 2 W (w.heap.size+1+1+1+1):=by intro l m e;rw[c]at e;cases e
 refine⟨(f.set dO _).set dO _,by simp only[sf];exact g,?_,(j.other dO b _).other dO (b.set _ _) _,(k.other dO b _).other dO (b.set _ _) _,?_,?_⟩
 ·rw[bS _ _ _ _ dO,bS _ _ _ _ dO];exact i
 ·rw[bS _ _ _ _ dO,bS _ _ _ _ dO];exact h6
 ·have:=Bk (Bk c 0 (O Z a.1)) 1 (O Z a.2);exact this
def iF{ps:LP}{x d:Rat}{f:List BF}(c:f.map (fun e=>e.1)=yb ps){p:List BF}{e:BF}(l:p++[e] <+: f)(k:∀e∈p,vd (Ka ps) x d e.1=false)(j:vd (Ka ps) x d e.1=true):xd ps x d=p.foldl (fun _ e=>Ph e.1) (0,0):=by
 obtain⟨t,rfl⟩:=l;unfold xd;rw[<-c,List.append_assoc,List.map_append,List.takeWhile_append_of_pos (by
  intro a g;obtain⟨b,i,rfl⟩:=List.mem_map.1 g;simp[k b i])]
 rw[show ([e]++t).map (fun e:BF=>e.1)=e.1::t.map (fun e=>e.1)from rfl,List.takeWhile_cons_of_neg (by simp[j]),List.append_nil,List.foldl_map]
def XH{ps:LP}{x f:Rat}{c:List BF}(d:c.map (fun e=>e.1)=yb ps)(j:∀e∈c,vd (Ka ps) x f e.1=false):xd ps x f=c.foldl (fun _ e=>Ph e.1) (0,0):=by
 unfold xd;have h:=List.takeWhile_append_of_pos (p:=fun e=>!vd (Ka ps) x f e) (l₁:=c.map fun e=>e.1) (l₂:=[]) (by
  intro a g;obtain⟨b,i,rfl⟩:=List.mem_map.1 g;simp[j b i])
 rw[List.append_nil,List.takeWhile_nil,List.append_nil]at h;rw[<-d,h,List.foldl_map]
def pq(w:I)(p:Int×Int)(e:Ending)(w':I):Prop:=e=.returned (F #[O Z p.1,O Z p.2])/\oa w w'
def Zt(w:I)(v vx vr:M)(ps:LP)(x rt:Rat)(h:Aa w v ps)(al:Fb ps)(a8:jh ps)(hx:La w vx x)(hb:Rb 1000 x)(hr:La w vr rt)(aZ:Rb 1000 rt):Calls Tryz.prog 102 #[v,vx,vr] w (pq w (xd ps x rt)):=by
 have HL:=ia (fun W (hW:oa w W)=>Qm W v ps (h.i hW) (List.length_pos_iff.2 al.1));obtain⟨a,c,rfl⟩:=h.form;obtain⟨xa,xm,xc,xs,bG,bI,bH,rfl⟩:=hx.form;obtain⟨ya,ym,yc,ys,bJ,bL,bK,rfl⟩:=hr.form;have Hb:=ia hb;have bg:=ia aZ;have bN:=ia al;obtain⟨n,hn⟩:=gX ps.length;rw[hn]at h HL ⊢;have Hn:=ia hn;obtain⟨es,a0⟩:∃es:List BF,es.map (fun e=>e.1)=yb ps:=⟨(yb ps).attachWith yq (fun e he=>⟨pl al.2.1 he,a8 e he⟩),jl _⟩;have aT:=ia a0;clear hb aZ al hn a8;refine(callsIn_wide (n:=5)).1 ?_;refine callsIn_of_wp_marks Tryz.func102 rfl trivial ?_ rfl;simp only[Tryz.ntmps102,List.size_toArray,List.length_cons,List.length_nil,Nat.reduceAdd,Nat.reduceSub,Array.replicate_succ,Array.replicate_zero,List.push_toArray,List.append_toArray,List.nil_append,List.cons_append]
 gi_wp2_with(refine⟨trivial,?_⟩;gi_at_call 116;refine(callsIn_wide.2 (Au _ _ _ _)).mono ?_;rintro e w' ⟨rfl,rfl⟩)
 obtain⟨W0,f⟩:=gX (((((((w.alloc (J #[Y a n c] 107)).alloc (J #[Y xa xm xc,N xs,Y bG bI bH] 43)).alloc (J #[Y ya ym yc,N ys,Y bJ bL bK] 43)).alloc (J #[O Z 0,O Z 0] 55)).alloc (J #[O Z 0,O Z 0] 55)).alloc (J #[Y a n c] 107)));have a9:oa w W0:=by rw[<-f];exact((((((eR w).alloc _).alloc _).alloc _).alloc _).alloc _).alloc _
 have bZ:W0.heap.size=w.heap.size+1+1+1+1+1+1:=by rw[<-f];simp
 have bq:W0.cell? ⟨w.heap.size+1+1+1+1+1,0,V⟩=C (Y a n c):=by rw[<-f,World.cell?_alloc_at _ _ _ _ sM];rfl
 have bo:sC w (Y a n c) (Ka ps) x rt [] W0:=by
  refine⟨⟨a9,by omega,?_,?_,?_,?_,?_⟩,fun e he=>by cases he⟩
  ·rw[<-f];exact(((((eR _).alloc _).alloc _).alloc _).alloc _).alloc _ |>.e (aN w _)
  ·rw[<-f];exact(RB.new (hx.ext ((eR w).alloc _)) sM).ext (((((eR _).alloc _).alloc _).alloc _).alloc _)
  ·rw[<-f];exact(RB.new (hr.ext (((eR w).alloc _).alloc _)) sM).ext ((((eR _).alloc _).alloc _).alloc _)
  ·rw[<-f];exact((eR _).alloc _).alloc _ |>.e (Kc _ _ _ sM)
  ·rw[<-f];exact(eR _).alloc _ |>.e (Kc _ _ _ sM)
 rw[f];clear f;refine wpIn_rangeFunc_ownH rfl dM (gf:=179) (lb:=#[U (C ⟨w.heap.size+1+1+1+1+1,0,V⟩)]) rfl trivial (enters_of Tryz.func179 kM rfl)
  (Mu (fun e:BF=>e.1) _ dM (w.heap.size+1+1+1+1+1) w _ _ ps es a0 bq oM h a9) Mc.trans (Mc.put oM oM) (Below.refl _ _) (fun _=>rfl)
  (sC w (Y a n c) (Ka ps) x rt) (SL w (Y a n c) (Ka ps) x rt) (Zh (fun s W h=>by have:=h.1.2.1;omega) (fun s W W' h k=>⟨h.1.sim k oM,h.2⟩)) (fun c=>Zh (fun s W h=>by obtain⟨_,_,_,_,h,_⟩:=h;have:=h.2.1;omega) (fun s W W' h k=>by obtain⟨h0,p,e,h1,h2,h3,h4⟩:=h;exact⟨h0,p,e,h1,h2.sim k oM,h3,h4⟩)) bo
  (fun e a' W=>VL w.heap.size e a' W) (fun e a'=>Zh (fun s W h=>by obtain⟨B,h1,h2,h3,_⟩:=h;have:=jc h2;omega) (fun s W W' h k=>by obtain⟨B,h1,h2,h3,h4⟩:=h;exact⟨B,h1,k.heap h2,k.heap h3,h4⟩)) ?assign ?body ?done ?stop
 case assign =>
  rintro l pre e W K hI hK;unfold Oh
  gi_wp2
  have hE:oa W ((W.alloc (J #[O Z e.1.1.1,O Z e.1.1.2] 55)).alloc (J #[O Z e.1.2.1,O Z e.1.2.2] 55)):=((eR W).alloc _).alloc _;refine hK _ _ (((KeepsOthers.alloc _ _).trans (KeepsOthers.alloc _ _)).from _) ((Mc.refl _ _ W).ext hE hI.1.1.size (by have:=hI.1.2.1;omega)) ⟨hI.1.ext hE,hI.2⟩ ⟨W.heap.size,hI.1.2.1,xu W _ _,uu W _ _,rfl,rfl,rfl,rfl,rfl,rfl,rfl,rfl⟩
 case body =>
  rintro l pre e a' W hl ⟨r,bY⟩ hI hA bU;obtain⟨tt,dd⟩:=a';obtain⟨B,hB,q1,q2,g0,g3,g4,g5,g7,g8,g9,gd⟩:=hA;dsimp only at g0 g3 g4 g5 g7 g8 g9 gd;subst gd;obtain⟨u,hu,ht⟩:=jj tt 73 g0;simp only[hu]at g3 g4 g5 g7 g8 g9;clear hu;subst ht;simp only[List.range,List.range.loop,List.map_cons,List.map_nil,g3,g4,g5,g7,g8,g9];clear g0 g3 g4 g5 g7 g8 g9;obtain⟨⟨⟨d,az⟩,bx,bz⟩,⟨ap,a1,a4⟩⟩:=e;dsimp only at q1 q2 ap a1 a4 ⊢;obtain⟨⟨h1,h2,h3,h4,h5,h6,h7⟩,j⟩:=hI;have aX:rk w (Y a n c) x rt (pre.foldl (fun _ e=>Ph e.1) (0,0)) W:=⟨h1,h2,h3,h4,h5,h6,h7⟩;have ah:=ia aX;have ab:=ia j;obtain⟨ad,af,ae,ag,P,T,R,r0,r1,r2,_,_,_,zr,bd⟩:=h4.rd;obtain⟨ta,tm,tc,ts,aI,aK,aJ,t0,t1,t2,_,_,_,zt,bc⟩:=h5.rd;have l0:=ja h3 0 (Y a n c);have e0:=ja q1 0 (O Z d);have z1:=jc q1;have z2:=jc q2;have aM:=ia q1;have aO:=ia q2;obtain⟨ai,bk,bl,bm⟩:=ap;have aV:=me (k:=104000) (n:=d) ai;have am:=ia aV;have aQ:=ia (fun W=>vi W d (by unfold Bd at ai;omega) (by unfold Bd at ai;omega));have aB:=ia bd;have bh:=ia bc;have aL:=ia (fun W' (hW:oa W W')=>HL.o W' (h1.trans hW));obtain⟨T1,aD⟩:=gX (Pb x ((d:Int):Rat));have aP:=ia aD;obtain⟨T2,aE⟩:=gX (Pb x rt);have bf:=ia aE;obtain⟨lf,ak⟩:=gX (Ka ps);rw[ak]at aL;have bM:=ia ak;have a7:vd (Ka ps) x rt ((d,az),bx,bz)=(decide (T1<0) || (decide (T1=0)&&(decide (lf<d)&&decide (0<=T2)))):=by unfold vd;dsimp only;rw[aD,aE,ak]
  have aU:=ia a7;have br:0<=bx-d/\bx-d<=208000:=by unfold Bd at ai bl;omega
  have bs:-208000<=bz-az/\bz-az<=208000:=by unfold Bd at bk bm;omega
  obtain⟨z,ar⟩:=gX (bx-d);obtain⟨m,au⟩:=gX (bz-az);rw[ar]at br;rw[au]at bs;obtain⟨t,aj⟩:∃g:Nat,Nat.gcd z.natAbs m.natAbs=g:=⟨_,rfl⟩;have bO:0<t:=by
   rw[<-aj];rcases Nat.eq_zero_or_pos (Nat.gcd z.natAbs m.natAbs)with h|h
   ·exfalso;obtain⟨q1,q2⟩:=Nat.gcd_eq_zero_iff.1 h;apply a4;have:=Int.natAbs_eq_zero.1 q1;have:=Int.natAbs_eq_zero.1 q2;exact Prod.ext dO dO
   ·exact h
  have aR:=ia (fun W'=>show Calls Tryz.prog 167 #[O Z z,O Z (max m (-m))] W' (fun e w'=>e=.returned (O Z (t:Nat))/\oa W' w') by
   have h:=QK W' z.natAbs m.natAbs oM oM;rw[aj,show ((z.natAbs:Nat):Int)=z by omega,show ((m.natAbs:Nat):Int)=max m (-m) by omega]at h;exact h)
  have aq:Ph ((d,az),bx,bz)=(z.tdiv t,m.tdiv t):=by unfold Ph;dsimp only;rw[ar,au,aj]
  have aS:=ia aq;have bW:(z.tdiv (t:Int)).natAbs<=208000:=by rw[Int.natAbs_tdiv];exact nT (Nat.div_le_self _ _) oM
  have bX:(m.tdiv (t:Int)).natAbs<=208000:=by rw[Int.natAbs_tdiv];exact nT (Nat.div_le_self _ _) oM
  clear aq aj;have aW:Ca [(⟨w.heap.size+1,0,V⟩,Y ad af ae),(⟨w.heap.size+1,1,V⟩,N ag),(⟨w.heap.size+1,2,V⟩,Y P T R),(⟨w.heap.size+1+1,0,V⟩,Y ta tm tc),(⟨w.heap.size+1+1,1,V⟩,N ts),(⟨w.heap.size+1+1,2,V⟩,Y aI aK aJ),(⟨w.heap.size,0,V⟩,Y a n c),(⟨B,0,V⟩,O Z d)] W.drew:=
   ⟨r0,r1,r2,t0,t1,t2,l0,e0,trivial⟩
  have be:=ia aW;clear aX j h3 h4 h5 h6 h7 r0 r1 r2 t0 t1 t2 l0 e0 bd bc aD aE ak a7 aW aV q1 q2
  gi_wp2
  refine Gs (S:=Ca [(⟨w.heap.size+1,0,V⟩,Y ad af ae),(⟨w.heap.size+1,1,V⟩,N ag),(⟨w.heap.size+1,2,V⟩,Y P T R),(⟨w.heap.size+1+1,0,V⟩,Y ta tm tc),(⟨w.heap.size+1+1,1,V⟩,N ts),(⟨w.heap.size+1+1,2,V⟩,Y aI aK aJ),(⟨w.heap.size,0,V⟩,Y a n c),(⟨B,0,V⟩,O Z d)]) kM kM be.o (fun b=>?_);refine sN 0 ?_
  iterate 3 refine Fc ?_
  refine oN ?_;refine Ec (i:=3) (aQ.o _) ?_;rintro e w3 ⟨v3,rfl,a6,aH⟩;obtain⟨a3,m3,c3,s3,b3,n3,k3,rfl⟩:=a6.form;refine⟨_,rfl,(cE b aH),fun b=>?_⟩;have aa:=ia (Mi w3 (F #[Y ad af ae,N ag,Y P T R]) (F #[Y a3 m3 c3,N s3,Y b3 n3 k3]) x ((d:Int):Rat) (aB.o.ext ((eR W).drew.trans aH)) a6 (Hb.o.mono dM) (am.o.mono dM));rw[aP.o]at aa;refine Ec (i:=4) aa.o ?_;rintro e w4 ⟨rfl,ba⟩;refine⟨_,rfl,(cE b ba),fun b=>?_⟩;have X4:oa W w4:=((eR W).drew.trans aH).trans ba;clear aa;by_cases hn:T1<0
  ·have y:vd (Ka ps) x rt ((d,az),bx,bz)=true:=by rw[aU.o,decide_eq_true hn];rfl
   refine sN 5 ?_
   iterate 2 refine Fc ?_
   iterate 19 refine fi ?_
   refine Fc ?_;refine oN ?_;refine Wd ?_;unfold NQ
   gi_wp2
   exact⟨il X4,rfl,pre,_,rfl,ah.o.ext X4,ab.o,y⟩
  have hc:((T1==0)=false/\vd (Ka ps) x rt ((d,az),bx,bz)=false)\/(T1=0/\¬lf<d/\vd (Ka ps) x rt ((d,az),bx,bz)=false)\/(T1=0/\lf<d/\¬0<=T2/\vd (Ka ps) x rt ((d,az),bx,bz)=false)\/(T1=0/\lf<d/\0<=T2/\vd (Ka ps) x rt ((d,az),bx,bz)=true):=by
   rw[aU.o,decide_eq_false hn,Bool.false_or];by_cases h1:T1=0<;>by_cases h2:lf<d<;>by_cases h3:0<=T2<;>simp[h1,h2,h3]
  rcases hc with ⟨bV,y⟩|⟨rfl,a2,y⟩|⟨rfl,a2,ht,y⟩|⟨rfl,a2,ht,y⟩
  all_goals
   refine sN 5 ?_
   iterate 5 refine Fc ?_
   refine oN ?_;refine Ec (i:=10) (aQ.o _) ?_;rintro e bC ⟨b6,rfl,av,ac⟩;obtain⟨bi,bw,bn,bB,bj,bA,bv,rfl⟩:=av.form;refine⟨_,rfl,(cE b ac),fun b=>?_⟩;have aa:=ia (Mi bC (F #[Y ad af ae,N ag,Y P T R]) (F #[Y bi bw bn,N bB,Y bj bA bv]) x ((d:Int):Rat) (aB.o.ext (X4.trans ac)) av (Hb.o.mono dM) (am.o.mono dM));rw[aP.o]at aa;refine Ec (i:=11) aa.o ?_;rintro e bD ⟨rfl,aw⟩;refine⟨_,rfl,(cE b aw),fun b=>?_⟩;have hX:oa W bD:=(X4.trans ac).trans aw;clear aa;refine sN 12 ?_
   iterate 2 refine Fc ?_
   refine oN ?_
   first|(refine Kh (i:=14) ?_;refine Kh (i:=15) ?_;refine Kh (i:=16) ?_;refine Kh (i:=17) ?_;refine Kh (i:=18) ?_)|(refine Ac (i:=14) ?_;refine Ac (i:=15) ?_;refine Ac (i:=16) ?_;refine Ec (i:=17) (aL.o _ hX) ?_;rintro e bE ⟨rfl,ay⟩;refine⟨_,rfl,(cE b ay),fun b=>?_⟩;replace hX:oa W bE:=hX.trans ay;refine Ac (i:=18) ?_)
   refine sN 19 ?_
   iterate 2 refine Fc ?_
   refine oN ?_
   first|(refine Kh (i:=21) ?_;refine Kh (i:=22) ?_;refine Kh (i:=23) ?_;refine Kh (i:=24) ?_)|(refine Ac (i:=21) ?_;refine Ac (i:=22) ?_;have an:=ia (Mi _ (F #[Y ad af ae,N ag,Y P T R]) (F #[Y ta tm tc,N ts,Y aI aK aJ]) x rt (aB.o.ext hX) (bh.o.ext hX) (Hb.o.mono dM) (bg.o.mono dM));rw[bf.o]at an;refine Ec (i:=23) an.o ?_;rintro e bF ⟨rfl,aA⟩;refine⟨_,rfl,(cE b aA),fun b=>?_⟩;replace hX:oa W bF:=hX.trans aA;refine Ac (i:=24) ?_)
   refine sN 25 ?_
   iterate 2 refine Fc ?_
   refine oN ?_;refine Wd ?_;unfold NQ
  rotate_left 3
  ·gi_wp2
   exact⟨il hX,rfl,pre,_,rfl,ah.o.ext hX,ab.o,y⟩
  all_goals
   rename I=>wz
   have b1:=ja (hX.e aM.o) 0 (O Z d);have b2:=ja (hX.e aM.o) 1 (O Z az);have b4:=ja (hX.e aO.o) 0 (O Z bx);have b5:=ja (hX.e aO.o) 1 (O Z bz)
   gi_wp2
   refine⟨trivial,CallsIn.mono (CallsIn.inRound l (callsIn_wide.2 (aR.o _))) ?_⟩;rintro e w5 ⟨rfl,bb⟩;dsimp only;have aY:=bb.e (aN wz (J #[O Z z,O Z m] 55));have d0:=ja aY 0 (O Z z);have d1:=ja aY 1 (O Z m);have X5:oa W w5:=(hX.alloc _).trans bb;have bP:¬((t:Nat):Int)=0:=oM;have bT:¬t=0:=oM;have bQ:(((t:Nat):Int)==0)=false:=by simp;omega
   have u1:IntKind.i64.wrap (z.tdiv t)=z.tdiv t:=iW _ ⟨by omega,by omega⟩;have u2:IntKind.i64.wrap (m.tdiv t)=m.tdiv t:=iW _ ⟨by omega,by omega⟩;have aG:=(ah.o.ext X5).2.2.2.2.2.2;have o0:=Gb aG (i:=0) rfl;have o1:=Gb aG (i:=1) rfl;have of:=Vb aG;have b0:w.heap.size+1+1+1+1<wz.heap.size:=by have:=hX.size;omega
   have ao:=ia (show ∀q∈[((⟨wz.heap.size,0,V⟩:Addr),Value.int Z z),(⟨wz.heap.size,1,V⟩,O Z m)],w.heap.size+1+1+1+1≠q.1.block from fun q hq h=>by
    simp at hq;rcases hq with rfl|rfl<;>(dsimp only at h;omega))
   gi_wp2
   refine Gs (S:=Ca [(⟨wz.heap.size,0,V⟩,O Z z),(⟨wz.heap.size,1,V⟩,O Z m)]) kM kM ⟨d0,d1,trivial⟩ (fun b=>?_);refine sN 0 ?_
   iterate 9 refine Fc ?_
   refine oN ?_;refine Je (i:=9) fun K hK=>?_;go_simp;refine kO hK (Ca.set (p:=⟨w.heap.size+1+1+1+1,1,V⟩) (Ca.set (p:=⟨w.heap.size+1+1+1+1,0,V⟩) b ao.o _) ao.o _) (fun b=>?_);clear hK K;refine Wd ?_;unfold NQ;have bp:=(ah.o.ext X5.drew).put (z.tdiv t,m.tdiv t);have bt:KeepsFrom W0.heap.size W ((w5.drew.setCell ⟨w.heap.size+1+1+1+1,0,V⟩ (O Z (z.tdiv t))).setCell ⟨w.heap.size+1+1+1+1,1,V⟩ (O Z (m.tdiv t))):=((il X5.drew).trans ((KeepsOthers.setCell _ _ _).from _)).trans ((KeepsOthers.setCell _ _ _).from _);have bu:Mc w (w.heap.size+1+1+1+1+1) W ((w5.drew.setCell ⟨w.heap.size+1+1+1+1,0,V⟩ (O Z (z.tdiv t))).setCell ⟨w.heap.size+1+1+1+1,1,V⟩ (O Z (m.tdiv t))):=
    (((Mc.refl w _ W).ext X5.drew h1.size oM).set dO dO _).set dO dO _
   gi_wp2
   refine⟨bt,bu,?_,fun e he=>?_⟩
   ·rw[List.foldl_append,List.foldl_cons,List.foldl_nil];dsimp only;rw[aS.o];exact bp
   ·rcases List.mem_append.1 he with he|he
    ·exact ab.o e he
    ·rw[List.mem_singleton.1 he];exact y
 case done =>
  rintro D ys W hD rfl ⟨⟨h1,h2,h3,h4,h5,h6,h7⟩,j⟩ hK;have hR:=XH aT.o j;obtain⟨⟨ox,oz⟩,ho⟩:∃o,ys.foldl (fun _ e=>Ph e.1) ((0,0):Int×Int)=o:=⟨_,rfl⟩;rw[ho]at h7 hR;have HR:=ia hR;have e0:=ja h7 0 (O Z ox);have e1:=ja h7 1 (O Z oz);have f0:=ja h6 0 (O Z 0);have f1:=ja h6 1 (O Z 0);have ff:=Vb h6;clear hR ho
  gi_wp2
  have aC:=Bk (Bk h6 0 (O Z ox)) 1 (O Z oz);have X:=(h1.set (p:=⟨w.heap.size+1+1+1,0,V⟩) dO (O Z ox)).set (p:=⟨w.heap.size+1+1+1,1,V⟩) dO (O Z oz);refine oo [D] _ ⟨by simp,fun E hE=>?_⟩ (fun W' aF=>?_)
  ·rw[List.mem_singleton.1 hE,bS _ _ _ _ dO,bS _ _ _ _ dO];exact hK
  ·have hS:=aF w.heap.size (fun E hE=>by rw[List.mem_singleton.1 hE];omega);have h8:=hS.heap aC;have c0:=ja h8 0 (O Z ox);have c1:=ja h8 1 (O Z oz);refine⟨F #[O Z ox,O Z oz],by simp[results,Tryz.results102,go_sem,c0,c1],?_⟩;rw[HR.o];exact⟨rfl,hS.ext X (nE _)⟩
 case stop =>
  rintro D c pre W hD a5 ⟨rfl,p,e,rfl,⟨h1,h2,h3,h4,h5,h6,h7⟩,j,y⟩ hK;have hR:=iF aT.o a5 j y;obtain⟨⟨ox,oz⟩,ho⟩:∃o,p.foldl (fun _ e=>Ph e.1) ((0,0):Int×Int)=o:=⟨_,rfl⟩;rw[ho]at h7 hR;have HR:=ia hR;have e0:=ja h7 0 (O Z ox);have e1:=ja h7 1 (O Z oz);have f0:=ja h6 0 (O Z 0);have f1:=ja h6 1 (O Z 0);have ff:=Vb h6;clear hR ho
  gi_wp2
  have aC:=Bk (Bk h6 0 (O Z ox)) 1 (O Z oz);have X:=(h1.set (p:=⟨w.heap.size+1+1+1,0,V⟩) dO (O Z ox)).set (p:=⟨w.heap.size+1+1+1,1,V⟩) dO (O Z oz);refine oo [D] _ ⟨by simp,fun E hE=>?_⟩ (fun W' aF=>?_)
  ·rw[List.mem_singleton.1 hE,bS _ _ _ _ dO,bS _ _ _ _ dO];exact hK
  ·have hS:=aF w.heap.size (fun E hE=>by rw[List.mem_singleton.1 hE];omega);have h8:=hS.heap aC;have c0:=ja h8 0 (O Z ox);have c1:=ja h8 1 (O Z oz);refine⟨F #[O Z ox,O Z oz],by simp[results,Tryz.results102,go_sem,c0,c1],?_⟩;rw[HR.o];exact⟨rfl,hS.ext X (nE _)⟩
end
section
open Go.RowKit Go.Shelf Go.Sort
def Pd(w:I)(v:M)(ps:LP):Prop:=∃T,Sl T 2 PP w v ps
def Pd.i{w w':I}{v:M}{ps:LP}(h:Pd w v ps)(k:oa w w'):Pd w' v ps:=by obtain⟨T,h⟩:=h;exact⟨T,Sl.ext (w:=w) (w':=w') h (fun _ _ h=>h) k⟩
def Pd.form{w:I}{v:M}{ps:LP}(h:Pd w v ps):∃a c,v=Y a ps.length c:=h.elim fun _ h=>Sl.form h
def Pd.j{w:I}{v:M}{ps:LP}(h:Pd w v ps):∃a n c,v=Y a n c:=h.elim fun _ h=>Cop.Ia h
def Pd.len{w:I}{a:Option Addr}{n c:Nat}{ps:LP}(h:Pd w (Y a n c) ps):n=ps.length:=h.elim fun _ h=>Sl.len h
def Pd.le{w:I}{a:Option Addr}{n c:Nat}{ps:LP}(h:Pd w (Y a n c) ps):ps.length<=c/\c<=maxLen:=h.elim fun _ h=>Sl.le h
def Pd.at'{w:I}{a:Option Addr}{n c:Nat}{ps:LP}(h:Pd w (Y a n c) ps){i:Nat}{p:Int×Int}(k:ps[i]?=C p):∃b o,a=C ⟨b,o,V⟩/\b<w.heap.size/\w.cell? ⟨b,o+i*2,V⟩=C (O Z p.1)/\w.cell? ⟨b,o+i*2+1,V⟩=C (O Z p.2):=by obtain⟨T,h⟩:=h;obtain⟨b,o,d,rfl,j,l,g,f⟩:=Sl.at h k;have e:d=[O Z p.1,O Z p.2]:=g;subst e;exact⟨b,o,rfl,j,f 0 _ rfl,f 1 _ rfl⟩
def Av(w:I)(c:List M)(p:Pl):Prop:=∃v,c=(pe p v).toList/\Pd w v p.shape/\0<=p.skin
def pf(w:I)(v:M)(ps:List Pl):Prop:=∃T,Sl T 10 Av w v ps
def pf.i{w w':I}{v:M}{ps:List Pl}(h:pf w v ps)(k:oa w w'):pf w' v ps:=by obtain⟨T,h⟩:=h;exact⟨T,Sl.ext (w:=w) (w':=w') h (fun _ _ ⟨v,a,b,c⟩=>⟨v,a,b.i k,c⟩) k⟩
def pf.form{w:I}{v:M}{ps:List Pl}(h:pf w v ps):∃a c,v=Y a ps.length c:=h.elim fun _ h=>Sl.form h
def pf.j{w:I}{v:M}{ps:List Pl}(h:pf w v ps):∃a n c,v=Y a n c:=h.elim fun _ h=>Cop.Ia h
def pf.len{w:I}{a:Option Addr}{n c:Nat}{ps:List Pl}(h:pf w (Y a n c) ps):n=ps.length:=h.elim fun _ h=>Sl.len h
def pf.le{w:I}{a:Option Addr}{n c:Nat}{ps:List Pl}(h:pf w (Y a n c) ps):ps.length<=c/\c<=maxLen:=h.elim fun _ h=>Sl.le h
def pf.at'{w:I}{a:Option Addr}{n c:Nat}{ps:List Pl}(h:pf w (Y a n c) ps){i:Nat}{p:Pl}(m:ps[i]?=C p):∃b o v,a=C ⟨b,o,V⟩/\b<w.heap.size/\Pd w v p.shape/\0<=p.skin/\∀(j:Nat) u,(pe p v)[j]?=C u->w.cell? ⟨b,o+i*10+j,V⟩=C u:=by obtain⟨T,h⟩:=h;obtain⟨b,o,d,rfl,g,q,⟨v,rfl,e,f⟩,k⟩:=Sl.at h m;exact⟨b,o,v,rfl,g,e,f,fun j u l=>k j u (by rw[Array.getElem?_toList];exact l)⟩
def Rh(p:Pl):Bool:=decide (20<p.shape.length) || decide (40<p.name.size)
def KF(w:I)(b:ByteArray)(v:M)(i:LP)(d k l o:Int)(h:Pd w v i):Calls Tryz.prog 37 #[F #[.string b,v,O Z d,O Z k,O Z l,O Z o]] w fun e q=>e=.returned (N (decide (20<i.length) || decide (40<b.size)))/\oa w q:=by
 obtain⟨a,c,rfl⟩:=h.form;obtain⟨n,p⟩:=gX i.length;rw[p];obtain⟨m,j⟩:=gX b.size;by_cases f:20<n
 ·have g:(20:Int)<(n:Int):=oM;have e:(decide (20<n) || decide (40<b.size))=true:=by simp[f]
  rw[e];clear f e j;go_in;go_wp2;go_ret;exact⟨rfl,eA⟩
 ·have g:¬(20:Int)<(n:Int):=oM;have e:(decide (20<n) || decide (40<b.size))=decide (40<m):=by simp[f,j]
  rw[e];clear f e;go_in;go_wp2;go_ret;exact⟨by simp;omega,eA⟩
def Ei(g:LP)(ps:List Pl):Bool:=!ps.any Rh&&(decide (ps.length<=8)&&decide (g.length<=50))
def zM(w:I)(a b:M)(ps:List Pl)(g:Nat)(t3:M)(W:I):Prop:=
 ∃i:Nat,i<=ps.length/\t3=O Z (i:Nat)/\g=ps.length-i/\oa w W/\W.heap[w.heap.size]?=C (J #[a,b] 25 (0,0))/\∀j y,j<i->ps[j]?=C y->Rh y=false
def ND(w:I)(vg vp:M)(g:LP)(ps:List Pl)(hg:Pd w vg g)(u:pf w vp ps):Calls Tryz.prog 6 #[F #[vg,vp]] w fun e w'=>e=.returned (N (Ei g ps))/\oa w w':=by
 obtain⟨ga,gc,rfl⟩:=hg.form;obtain⟨pa,pc,rfl⟩:=u.form;obtain⟨n,hn⟩:=gX ps.length;obtain⟨m,hm⟩:=gX g.length;have t:=u.le;rw[hm];rw[hn]at u t ⊢;unfold maxLen at t;have aj:n<=9223372036854775807:=oM;have a:=ia hn;have Hm:=ia hm;have Hp:=ia u;obtain⟨fb,r⟩:=gX (Ei g ps);rw[r];have x:=ia r;clear hn t hg u hm r;go_in;go_wp2;go_loopg [3] n (zM w (Y ga m gc) (Y pa n pc) ps)
 case atStart=>exact⟨0,by omega,rfl,by rw[a.o];rfl,eA,aN w _,fun j y P=>by omega⟩
 case round =>
  obtain⟨i,hi,rfl,rfl,hx,c,k⟩:=hrel;rw[a.o]at hi;have w0:=ja c 0 (Y ga m gc);have w1:=ja c 1 (Y pa n pc);have f:=ia k;have K:=ia hx;have T:=ia c;clear k;by_cases ad:i<n
  ·obtain⟨p,hq⟩:∃q,ps[i]?=C q:=⟨ps[i]'(by rw[a.o];omega),by simp[a.o,ad]⟩;obtain⟨b,o,v,rfl,hb,hv,_,l⟩:=(Hp.o.i hx).at' hq;have R:=ia (fun W (hW:oa wr W)=>KF W p.name v p.shape p.depth p.density p.gx p.gz (hv.i hW));obtain⟨lb,s⟩:=gX (Rh p);rw[show (decide (20<p.shape.length) || decide (40<p.name.size))=lb from s]at R;have z:=ia s;obtain⟨va,vn,vc,rfl⟩:=hv.j;have aa:=l 0 (.string p.name) rfl;have ae:=l 1 (Y va vn vc) rfl;have af:=l 2 (O Z p.depth) rfl;have ag:=l 3 (O Z p.density) rfl;have ah:=l 4 (O Z p.gx) rfl;have ai:=l 5 (O Z p.gz) rfl;simp only[Nat.add_zero]at aa;have Hq:=ia hq;have p1:(0:Int)<=(i:Int):=oM;have p2:(i:Int)<(n:Int):=oM;clear l hq hv s hx c;cases lb with
   |true=>
    have e:fb=false:=by
     rw[<-x.o];unfold Ei;rw[show ps.any Rh=true from List.any_eq_true.2 ⟨p,lM Hq.o,z.o⟩];rfl
    subst e;go_wp2_with(go_at_call 37;refine cM (R.o _ (eR _)) ?_;rintro e w1 ⟨rfl,d⟩);go_ret;exact⟨rfl,K.o.trans d⟩
   |false=>
    go_wp2_with(go_at_call 37;refine cM (R.o _ (eR _)) ?_;rintro e w1 ⟨rfl,d⟩);go_roundg (n-(i+1))
    case measure=>have:=a.o;omega
    case rel =>
     refine⟨i+1,by have:=a.o;omega,by go_num,by rw[a.o],K.o.trans d,d.e T.o,fun j y P hy=>?_⟩;by_cases ac:j=i
     ·subst ac;rw[Hq.o]at hy;cases hy;exact z.o
     ·exact f.o j y oM hy
  ·obtain rfl:n=i:=oM;have e:fb=(decide (n<=8)&&decide (m<=50)):=by
    rw[<-x.o];unfold Ei;rw[show ps.any Rh=false from by
     rw[List.any_eq_false];intro p u;obtain⟨j,P⟩:=List.mem_iff_getElem?.1 u;rw[f.o j p (by have:=(lS.1 P).1;rw[a.o]at this;exact this) P];decide,a.o,Hm.o]
    rfl
   subst e;by_cases h8:n<=8
   ·have ab:(n:Int)<=8:=oM;go_wp2;go_ret;exact⟨by simp[h8];try omega,K.o⟩
   ·have ab:¬(n:Int)<=8:=oM;go_wp2;go_ret;exact⟨by simp[h8],K.o⟩
def Wq{g:LP}{ps:List Pl}(h:Ei g ps=true):g.length<=1000/\ps.length<=8/\∀p∈ps,p.shape.length<=1000:=by unfold Ei at h;simp only[Bool.and_eq_true,Bool.not_eq_true',List.any_eq_false,decide_eq_true_eq]at h;obtain⟨a,b,d⟩:=h;refine⟨by omega,b,fun p c=>?_⟩;have:=a p c;unfold Rh at this;simp only[Bool.or_eq_true,decide_eq_true_eq,not_or]at this;omega
def fM(w:I)(ps:LP)(g:Nat)(t3 t4:M)(W:I):Prop:=
 ∃i:Nat,i<=ps.length/\t4=O Z (i:Nat)/\g=ps.length-i/\oa w W/\Ga 55 2 W w.heap.size t3 ((ps.take i).map pc)
def XA(w:I)(v:M)(ps:LP)(h:Pd w v ps)(ab:ps.length<=1000):Calls Tryz.prog 40 #[v] w fun e u=>∃v',e=.returned v'/\Ga 55 2 u w.heap.size v' (ps.map pc)/\oa w u:=by
 obtain⟨a,c,rfl⟩:=h.form;obtain⟨n,hn⟩:=gX ps.length;rw[hn]at h ab ⊢;have p:=ia hn;have H:=ia h;obtain⟨R,hR⟩:∃R:Ending->I->Prop,(fun e u=>∃v',e=.returned v'/\Ga 55 2 u w.heap.size v' (ps.map pc)/\oa w u)=R:=⟨_,rfl⟩;rw[hR];have HR:=ia hR;clear hn h hR;go_in;go_wp2;go_loopg [3,4] n (fM w ps)
 case atStart=>exact⟨0,by omega,rfl,by rw[p.o];rfl,eR _,by simpa using Ga.nil _ _ _ _⟩
 case round =>
  obtain⟨i,hi,rfl,rfl,P,d⟩:=hrel;rw[p.o]at hi;obtain⟨va,vn,vc,rfl⟩:=d.j;have f:=ia d;have W:=ia P;by_cases aa:i<n
  ·obtain⟨⟨x,z⟩,r⟩:∃q,ps[i]?=C q:=⟨ps[i]'(by rw[p.o];omega),by simp[p.o,aa]⟩;obtain⟨b,o,rfl,hb,d0,d1⟩:=(H.o.i P).at' r;obtain⟨b0,o0,e0,ae,_⟩:=H.o.at' r;cases e0;dsimp only at d0 d1;have Hq:=ia r;have p1:(0:Int)<=(i:Int):=oM;have p2:(i:Int)<(n:Int):=oM;clear r P d;go_wp2;refine Ke [(⟨b,o+i*2,V⟩,O Z x),(⟨b,o+i*2+1,V⟩,O Z z)] ⟨d0,d1,trivial⟩ fun l=>?_;refine sN 0 ?_
   iterate 12 refine Fc ?_
   refine oN ?_;refine Je (i:=12) fun K s=>?_;go_simp;refine kO s (cE l ((eR _).alloc _)) (fun l=>?_);clear s K;have y:oa wr ((wr.alloc (J #[O Z x,O Z z] 55)).drew):=((eR wr).alloc _).drew;refine Je (i:=13) fun K s=>?_;refine Yt (T:=55) (t:=32) (z:=F #[O Z 0,O Z 0]) (k:=2) (bytes:=16) (v:=Y va vn vc) (base:=w.heap.size) ul rfl dM dM Tryz.underlying32 rfl _ _ rfl rfl (f.o.ext y) (ad:=⟨wr.heap.size,0,V⟩) (m:=1) (c:=1) rfl [pc (x,z)] rfl (by simp[pc]) (by exact Dw wr x z 55) (kw x z) (by rw[lL,List.length_take];omega) (by have:=y.size;have:=W.o.size;omega) ?_;intro v' w9 j g ac;obtain⟨a9,n9,c9,rfl⟩:=j.j;have zb:b<wr.heap.size:=hb;refine kO s (Ca.grown l g (fun q r e=>?_)) (fun l=>?_)
   ·have h9:=(f.o.lt _ e.symm).1;simp at r;rcases r with rfl|rfl<;>(dsimp only at h9;omega)
   clear s K;refine Ac (i:=14) ?_;refine Wd ?_;go_wp2;go_roundg (n-(i+1))
   case measure=>have:=p.o;omega
   case rel =>
    refine⟨i+1,by have:=p.o;omega,by go_num,by rw[p.o],(W.o.trans y).E (Ch (base:=w.heap.size) g (by have:=y.size;have:=W.o.size;omega) (fun k hk=>(f.o.lt k hk).1)) (nE _),?_⟩;rw[Xf _ _ _ Hq.o,List.map_append];exact j
  ·obtain rfl:n=i:=oM;have e:ps.take n=ps:=lT (by rw[p.o];exact nE _);rw[e]at d;go_wp2;rw[<-HR.o];exact⟨_,rfl,d,P⟩
def AG(w:I)(t:ByteArray)(v:M)(R:LP)(d l m o:Int)(h:Pd w v R)(ac:R.length<=1000):Calls Tryz.prog 113 #[F #[.string t,v,O Z d,O Z l,O Z m,O Z o]] w fun e w'=>∃v',e=.returned (F #[.string t,v',O Z d,O Z l,O Z m,O Z o])/\Aa w' v' R/\oa w w'/\∀j,v'.ownBlock=C j->w.heap.size<=j:=by
 have HP:=ia (fun W (hW:oa w W)=>XA W v R (h.i hW) ac);obtain⟨a,n,c,rfl⟩:=h.j;clear h;go_in;go_wp2;refine Ke [(⟨w.heap.size,0,V⟩,.string t),(⟨w.heap.size,1,V⟩,Y a n c),(⟨w.heap.size,2,V⟩,O Z d),(⟨w.heap.size,3,V⟩,O Z l),(⟨w.heap.size,4,V⟩,O Z m),(⟨w.heap.size,5,V⟩,O Z o)] cA fun r=>?_;refine sN 0 ?_
 iterate 4 refine Fc ?_
 refine oN ?_;refine sN 5 ?_
 iterate 11 refine Fc ?_
 refine oN ?_;refine Ec (i:=4) (HP.o _ eA) ?_;rintro e T ⟨v3,rfl,f,u⟩;obtain⟨y,P,z,rfl⟩:=f.j;refine⟨_,rfl,(cE r u),fun r=>?_⟩;refine Ac (i:=16) ?_;have ad:=f.pts;have k:=u.e (Tt w (J #[.string t,Y a n c,O Z d,O Z l,O Z m,O Z o] 97) (J #[.string ⟨#[]⟩,Y V 0 0,O Z 0,O Z 0,O Z 0,O Z 0] 70));have k0:=ja k 0 (.string ⟨#[]⟩);have k1:=ja k 1 (Y V 0 0);have k2:=ja k 2 (O Z 0);have k3:=ja k 3 (O Z 0);have k4:=ja k 4 (O Z 0);have k5:=ja k 5 (O Z 0);have kf:=Vb k;have g:=ia (show ∀q∈[((⟨w.heap.size,0,V⟩:Addr),Value.string t),(⟨w.heap.size,1,V⟩,Y a n c),(⟨w.heap.size,2,V⟩,O Z d),(⟨w.heap.size,3,V⟩,O Z l),(⟨w.heap.size,4,V⟩,O Z m),(⟨w.heap.size,5,V⟩,O Z o)],w.heap.size+1≠q.1.block from fun q hq h=>by
  simp at hq;rcases hq with rfl|rfl|rfl|rfl|rfl|rfl<;>(dsimp only at h;omega))
 have aa:oa w T:=((((eR w).alloc _).alloc _).drew).trans u;have b:=ia k;clear k;refine Je (i:=17) fun K hK=>?_;go_simp;refine kO hK (Ca.set (p:=⟨w.heap.size+1,5,V⟩) (Ca.set (p:=⟨w.heap.size+1,4,V⟩) (Ca.set (p:=⟨w.heap.size+1,3,V⟩) (Ca.set (p:=⟨w.heap.size+1,2,V⟩) (Ca.set (p:=⟨w.heap.size+1,1,V⟩) (Ca.set (p:=⟨w.heap.size+1,0,V⟩) r g.o _) g.o _) g.o _) g.o _) g.o _) g.o _) (fun r=>?_);clear hK K;refine Wd ?_;go_wp2;obtain⟨W5,s⟩:=gX (((((((T.setCell ⟨w.heap.size+1,0,V⟩ (.string t)).setCell ⟨w.heap.size+1,1,V⟩ (Y y P z)).setCell ⟨w.heap.size+1,2,V⟩ (O Z d)).setCell ⟨w.heap.size+1,3,V⟩ (O Z l)).setCell ⟨w.heap.size+1,4,V⟩ (O Z m)).setCell ⟨w.heap.size+1,5,V⟩ (O Z o)));have x:W5.heap[w.heap.size+1]?=C (J #[.string t,Y y P z,O Z d,O Z l,O Z m,O Z o] 70 (0,0)):=by
  rw[<-s];exact rh (rh (rh (rh (rh (rh b.o 0 _) 1 _) 2 _) 3 _) 4 _) 5 _
 have hk:Fa 55 T W5:=by
  rw[<-s];exact(((((Fa.refl 55 T).set (p:=⟨w.heap.size+1,0,V⟩) b.o dM _).set (p:=⟨w.heap.size+1,1,V⟩) (rh b.o 0 _) dM _).set (p:=⟨w.heap.size+1,2,V⟩) (rh (rh b.o 0 _) 1 _) dM _).set (p:=⟨w.heap.size+1,3,V⟩) (rh (rh (rh b.o 0 _) 1 _) 2 _) dM _).set (p:=⟨w.heap.size+1,4,V⟩) (rh (rh (rh (rh b.o 0 _) 1 _) 2 _) 3 _) dM _ |>.set (p:=⟨w.heap.size+1,5,V⟩) (rh (rh (rh (rh (rh b.o 0 _) 1 _) 2 _) 3 _) 4 _) dM _
 have ab:oa w W5:=by
  rw[<-s];exact((((((aa.set dO _).set dO _).set dO _).set dO _).set dO _).set dO _)
 rw[s];have b0:=ja x 0 (.string t);have b1:=ja x 1 (Y y P z);have b2:=ja x 2 (O Z d);have b3:=ja x 3 (O Z l);have b4:=ja x 4 (O Z m);have b5:=ja x 5 (O Z o);exact bR (v:=F #[.string t,Y y P z,O Z d,O Z l,O Z m,O Z o]) (by simp[results,Tryz.results113,go_sem,b0,b1,b2,b3,b4,b5]) rfl ⟨_,rfl,ad.G hk,ab,fun j hj=>by have:=(f.lt j hj).1;simp only[wZ,Tb]at this;omega⟩
end
section
open Go.ChangeShapes Go.WideShapes Go.Deep
def Ek(P:Program)(t:TypeId):Array Field:=match P.underlying t with|some (.struct fs)=>fs|_=>#[]
section
variable {H:Type} {enc:TypeId×Value->H} {w:World} {spare:Nat->Bool} {held:Bool}
def Zi{P:Program}{a:Array Field}{n i ti oi ki:Nat}{cs:List Value}{xs:List (DataW H×List MemPlace)}(d:xs.length=a.size)(b:∀(i:Nat)(f:Field),a[i]?=some f->DataW.trod enc P w 0 spare held n f.type ((cs.drop f.offset).take (P.cellsOf f.type))=xs[i]?)(hi:a[i]?.map (fun f=>(f.type,f.offset,P.cellsOf f.type))=some (ti,oi,ki)):∃y,DataW.trod enc P w 0 spare held n ti ((cs.drop oi).take ki)=some y:=by
 cases h:a[i]? with
 | none=>rw[h]at hi;cases hi
 | some f =>
  rw[h]at hi;simp only[Option.map_some,Option.some.injEq,Prod.mk.injEq]at hi;obtain⟨rfl,rfl,rfl⟩:=hi;have c:i<xs.length:=by rw[d];exact(Array.getElem?_eq_some_iff.1 h).1
  exact⟨xs[i],by rw[b i f h];simp[c]⟩
def Io:Tryz.prog.underlying 3=some (.int .i64):=kM
def vD:Tryz.prog.underlying 5=some (.int .u8):=kM
def RE:Tryz.prog.underlying 9=some .string:=kM
def yD:Tryz.prog.underlying 29=some (.struct (Ek Tryz.prog 29)):=kM
def xD:Tryz.prog.underlying 97=some (.struct (Ek Tryz.prog 97)):=kM
def AD:Tryz.prog.underlying 99=some (.struct (Ek Tryz.prog 99)):=kM
def gw:Tryz.prog.underlying 25=some (.struct (Ek Tryz.prog 25)):=kM
def SE:Tryz.prog.underlying 22=some (.slice 29):=kM
def TE:Tryz.prog.underlying 23=some (.slice 99):=kM
def Zu{n:Nat}{cs:List Value}{y:DataW H×List MemPlace}(h:DataW.trod enc Tryz.prog w 0 spare held n 29 cs=some y):∃p:Int×Int,cs=[.int .i64 p.1,.int .i64 p.2]:=by
 obtain⟨o,m,_,_,f,g,e⟩:=DataW.trod_struct yD h;have l:Tryz.prog.cellsOf 29=2:=kM;rw[l]at f;obtain⟨q,j⟩:=Zi g e (i:=0) (ti:=3) (oi:=0) (ki:=1) kM;obtain⟨r,k⟩:=Zi g e (i:=1) (ti:=3) (oi:=1) (ki:=1) kM
 match cs,f with
 | [a,b],_ =>
  obtain⟨x,c,_⟩:=DataW.trod_int Io j;obtain⟨z,d,_⟩:=DataW.trod_int Io k;simp at c d;subst c d;exact⟨(x,z),rfl⟩
def kt{α:Type}{Q:List Value->α->Prop}:∀{css:List (List Value)},(∀d∈css,∃a,Q d a)->∃l:List α,css.length=l.length/\∀(i:Nat) d a,css[i]?=some d->l[i]?=some a->Q d a
 | [],_=>⟨[],rfl,fun i d a h=>by simp at h⟩
 | c::css,h=>by
  obtain⟨a,j⟩:=h c sM;obtain⟨l,k,f⟩:=kt (css:=css) (fun d e=>h d (mC _ e));refine⟨a::l,by simp[k],fun i d b e g=>?_⟩;cases i with
  | zero=>simp at e g;subst e g;exact j
  | succ i=>exact f i d b (by simpa using e) (by simpa using g)
def VB{n:Nat}{v:Value}{y:DataW H×List MemPlace}(h:DataW.trod enc Tryz.prog w 0 spare held n 22 [v]=some y):∃ps,Pd w v ps:=by
 obtain⟨a,m,c,T,g,e,l,j,r,i⟩:=NA SE (k:=2) kM oM h;cases e;obtain⟨ps,b,q⟩:=kt (α:=Int×Int) (Q:=PP w) (fun d h=>by
  obtain⟨f,y,s⟩:=i d h;obtain⟨p,o⟩:=Zu s;exact⟨p,o⟩)
 exact⟨ps,T,g,b,j,by rw[<-b,l];exact r,q⟩
def mL{n:Nat}{cs:List Value}{y:DataW H×List MemPlace}(h:DataW.trod enc Tryz.prog w 0 spare held n 99 cs=some y):∃p:Pl,Av w cs p:=by
 obtain⟨xs,m,_,_,v,f,e⟩:=DataW.trod_struct AD h;have hc:Tryz.prog.cellsOf 99=10:=kM;rw[hc]at v;obtain⟨y0,h0⟩:=Zi f e (i:=0) (ti:=97) (oi:=0) (ki:=6) kM;obtain⟨y1,h1⟩:=Zi f e (i:=1) (ti:=3) (oi:=6) (ki:=1) kM;obtain⟨y2,h2⟩:=Zi f e (i:=2) (ti:=29) (oi:=7) (ki:=2) kM;obtain⟨y3,h3⟩:=Zi f e (i:=3) (ti:=5) (oi:=9) (ki:=1) kM
 match cs,v with
 | [a0,a1,a2,a3,a4,a5,a6,a7,a8,a9],_ =>
  obtain⟨zs,k,_,_,_,d,c⟩:=DataW.trod_struct xD h0;obtain⟨z0,R⟩:=Zi d c (i:=0) (ti:=9) (oi:=0) (ki:=1) kM;obtain⟨z1,T⟩:=Zi d c (i:=1) (ti:=22) (oi:=1) (ki:=1) kM;obtain⟨z2,W⟩:=Zi d c (i:=2) (ti:=3) (oi:=2) (ki:=1) kM;obtain⟨z3,g3⟩:=Zi d c (i:=3) (ti:=3) (oi:=3) (ki:=1) kM;obtain⟨z4,g4⟩:=Zi d c (i:=4) (ti:=29) (oi:=4) (ki:=2) kM;obtain⟨nm,j,_⟩:=DataW.trod_string RE R;obtain⟨sh,g⟩:=VB T;obtain⟨K,l,_⟩:=DataW.trod_int Io W;obtain⟨P,o,_⟩:=DataW.trod_int Io g3;obtain⟨u,q⟩:=Zu g4;obtain⟨wy,r,_⟩:=DataW.trod_int Io h1;obtain⟨b,s⟩:=Zu h2;obtain⟨x,t,_,a⟩:=DataW.trod_int vD h3;simp at j l o q r s t;obtain⟨rfl,rfl⟩:=q;obtain⟨rfl,rfl⟩:=s;subst j l o r t;refine⟨⟨nm,sh,K,P,u.1,u.2,wy,b.1,b.2,x⟩,_,rfl,g,?_⟩;have z:decide (IntKind.u8.min<=x)=true:=by unfold Lit.wf at a;simp only[Bool.and_eq_true]at a;exact a.1
  have w8:IntKind.u8.min=0:=dM;rw[w8]at z;exact of_decide_eq_true z
def qL{n:Nat}{v:Value}{y:DataW H×List MemPlace}(h:DataW.trod enc Tryz.prog w 0 spare held n 23 [v]=some y):∃ps,pf w v ps:=by
 obtain⟨a,m,c,T,g,e,l,j,p,i⟩:=NA TE (k:=10) kM oM h;cases e;obtain⟨ps,b,o⟩:=kt (α:=Pl) (Q:=Av w) (fun d h=>by
  obtain⟨f,y,q⟩:=i d h;exact mL q)
 exact⟨ps,T,g,b,j,by rw[<-b,l];exact p,o⟩
def OK{r:Reach}{n:Nat}{v:Value}{d:DataW H}{p:List MemPlace}(hv:Value.okWide Tryz.prog w r n 25 v)(h:DataW.Trod enc Tryz.prog w 0 spare held 25 v d p):∃vg vp g ps,v = .agg #[vg,vp]/\Pd w vg g/\pf w vp ps:=by
 obtain⟨j,rfl,c⟩:=okWide_struct gw hv;have u:Tryz.prog.cellsOf 25=2:=kM;rw[u]at c;obtain⟨e,f,rfl⟩:∃a b,j=#[a,b]:=by
  match j,c with
  | ⟨[a,b]⟩,_=>exact⟨a,b,rfl⟩
 obtain⟨fuel,x⟩:=h;obtain⟨z,m,_,_,y,l,k⟩:=DataW.trod_struct gw x;obtain⟨K,o⟩:=Zi l k (i:=0) (ti:=22) (oi:=0) (ki:=1) kM;obtain⟨P,q⟩:=Zi l k (i:=1) (ti:=23) (oi:=1) (ki:=1) kM;obtain⟨g,s⟩:=VB (v:=e) o;obtain⟨ps,t⟩:=qL (v:=f) q;exact⟨e,f,g,ps,rfl,s,t⟩
end
end
section
open Go.RowKit Go.Shelf Go.Sort Go.Lib
attribute [local go_sem] Oper.semAt_some
