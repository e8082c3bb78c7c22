/- Part 20. -/
import Derived.Test.YtjnjpagegkcgfaaGreatDoorCosA18
import Derived.Test.YtjnjpagegkcgfaaGreatDoorCosA06
set_option maxRecDepth 1000000
set_option maxHeartbeats 16000000
set_option linter.unusedSimpArgs false
set_option linter.unusedVariables false
open Go.Value renaming slice->O,int->Z,agg->J
open Option renaming none->Y,some->V
open Go.IntKind renaming i64->X
open Go.Obj renaming cells->I
open Go renaming World->M
namespace Go.Proofs.YtjnjpagegkcgfaaGreatDoor.Cop
section
open Go.RowKit Go.Shelf
attribute [local go_sem] Oper.semAt_some
abbrev limE:Nat:=300000
theorem zdg(w:M)(va vb:Value)(na nd:Int)(ha:IsN w va na)(hb:IsN w vb nd)(bm:Lm limE na)(bU:Lm limE nd)(hd:nd≠0) :
  Calls Tryz.prog 142 #[va,vb] w fun e w'=>∃r1 r2,e = .returned (.tuple #[r1,r2])/\IsN w' r1 (na / nd)/\IsN w' r2 (na % nd)/\Ext w w':=by
 obtain⟨s,a,m,c,rfl,hs⟩:=ha.form2;obtain⟨s',a',m',c',rfl,bp⟩:=hb.form2;obtain⟨xs,hl,hi,hc,hv⟩:=ha.open;have hm:=zbg bm hc hv;rw[hl]at hm;unfold limE at hm;obtain⟨p,hp⟩:=gX (s'*s');have aI:=hb.abs;rw[hp]at aI;obtain⟨D,hD⟩:=gX ((nd.natAbs:Int));rw[hD]at aI;have bF:0<D:=oM
 have cS:0<=p/\p<=1:=by rcases zai nd with ⟨e,_⟩|⟨e,_⟩|⟨e,_⟩<;>(rw[<-hp,bp,e];decide)
 obtain⟨dG,dH⟩:=cS;have HD:=hd9 hD;have Hp:=hd9 hp;have Hs:=hd9 hs;have bB:=hd9 bp;have Hl:=hd9 hl;have Hv:=hd9 hv;have cp:=hd9 bm;have aK:Hid (Lm limE D):=hd9 (by rw[<-hD];exact bU.abs);have Hd:=hd9 hd;clear hs bp hl hv hp hD bm bU hd;obtain⟨W0,L⟩:=gX ((((w.alloc (I #[Z X s,O a m c] 66)).alloc (I #[Z X s',O a' m' c'] 66)).alloc (I #[Z X 0,O Y 0 0] 66)).alloc (I #[Z X 0,O Y 0 0] 66));have z0:w.heap.size+1+1+1+1=W0.heap.size:=by rw[<-L];simp
 have z1:w.heap.size<W0.heap.size:=oM
 have z2:w.heap.size+1<W0.heap.size:=oM
 have z3:w.heap.size+1+1<W0.heap.size:=oM
 have z4:w.heap.size+1+1+1<W0.heap.size:=oM
 have p0:W0.cell? ⟨w.heap.size,0,Y⟩=V (Z X s):=by rw[<-L];clear L;go_simp
 have p1:W0.cell? ⟨w.heap.size,1,Y⟩=V (O a m c):=by rw[<-L];clear L;go_simp
 have q0:W0.cell? ⟨w.heap.size+1,0,Y⟩=V (Z X s'):=by rw[<-L];clear L;go_simp
 have q1:W0.cell? ⟨w.heap.size+1,1,Y⟩=V (O a' m' c'):=by rw[<-L];clear L;go_simp
 have cz:Hid (W0.heap[w.heap.size+1+1]?=V (I #[Z X 0,O Y 0 0] 66 (0,0))):=by rw[<-L];exact hd9 (by rw[Below.heap_alloc _ _ _ sM];exact qhA _ _ _ sM)
 have cB:Hid (W0.heap[w.heap.size+1+1+1]?=V (I #[Z X 0,O Y 0 0] 66 (0,0))):=by rw[<-L];exact hd9 (qhA _ _ _ sM)
 have aG:Hid (Ext w W0):=by rw[<-L];exact hd9 eA
 go_enter Tryz.func142,Tryz.ntmps142
 go_upto_region 3 with (first|(at_make;refine mk0 (n:=m) za0 Tryz.underlying64 rfl _ _ rfl _ rfl rfl rfl oM ?_;(try rw[L]);intro w1 aE ad b9;(try simp only[z0]at aE);(have e0:=ad.cellS p0);(have e1:=ad.cellS p1);(have e2:=ad.cellS q0);(have e3:=ad.cellS q1))|(go_at_call 190;(with_reducible refine(zmc _ s' a' m' c' nd ?_).mono ?_);(refine hb.ext ?_;exact aG.out.trans ad);rw[Hp.out];rintro e w2 ⟨rfl,aB⟩))
 clear L;have an:Ext W0 w2:=ad.trans aB;have zg:W0.heap.size<w2.heap.size:=Nat.lt_of_lt_of_le b9 aB.size;have y1:w.heap.size<w2.heap.size:=oM
 have y2:w.heap.size+1<w2.heap.size:=oM
 replace e0:=aB.cellS e0
 replace e1:=aB.cellS e1
 replace e2:=aB.cellS e2
 replace e3:=aB.cellS e3
 go_wp2
 go_loopw [9] (QuO W0 m xs D w2.heap.size (w2.heap.size+1) #[Z X p,O a' m' c']) (fun t9 _=>(intOf t9+1).toNat)
 case atStart =>
  have k1:((w2.alloc (I #[Z X 0,O Y 0 0] 66)).alloc (I #[Z X p,O a' m' c'] 66)).heap[w2.heap.size]?=V (I #[Z X 0,O Y 0 0] 66 (0,0)):=nbh0 ..;refine⟨(m:Int)-1,List.replicate m 0,0,rfl,by omega,by omega,by simp,?_,?_,⟨0,Y,0,0,k1,OwnN.nil _ _⟩,qhA _ _ _ sM,?_,by omega,bF,(an.alloc _).alloc _⟩
  ·exact((aE.keep aB.keep).alloc _).alloc _
  ·intro d hd
   rw[(List.mem_replicate.1 hd).2];unfold C4;omega
  ·rw[List.drop_of_length_le (by rw[Hl.out];omega),List.drop_of_length_le sM];simp
 case round =>
  obtain⟨g,bT⟩:=gX w2.heap.size;rw[bT]at hrel ⊢;have dR:W0.heap.size<g:=oM
  clear aE e0 e1 e2 e3 ad aB an b9 y1 y2 zg bT;obtain⟨j,qs,R,rfl,Sq⟩:=hrel;have j0:=Sq.j0;have j1:=Sq.j1;have ai:=Sq.ext;have e0:=ai.cellS p0;have e1:=ai.cellS p1;have d0:=qcB Sq.size (i:=0) (u:=Z X p) rfl;have d1:=qcB Sq.size (i:=1) (u:=O a' m' c') rfl;have zd:=zaa Sq.size;have r:=hd9 Sq
  by_cases hj:0<=j
  ·obtain⟨k,rfl⟩:=Int.eq_ofNat_of_zero_le hj
   obtain⟨sr,ar,mr,cr,ac,aD⟩:=Sq.rest;have t0:=qcB ac (i:=0) (u:=Z X sr) rfl;have t1:=qcB ac (i:=1) (u:=O ar mr cr) rfl;have zt:=zaa ac;have cg:=qfB ac 0;have tf1:=qfB ac 1;obtain⟨rs,rl,ro,rc,rv⟩:=aD.open;have Rl:=hd9 rl;have aZ:=Sq.r0;have bj:=Sq.r1;have bL:(R.natAbs:Int)=R:=oM
   rw[bL]at rv;have Rv:=hd9 rv;have dI:rs.length<=2*300000:=zbg (k:=limE) (n:=R) (by have:=aK.out;unfold Lm at *;omega) rc (by rw[bL];exact rv);obtain⟨b,o,rfl,dE,ad⟩:=(hi.ext (aG.out.trans ai)).open (by rw[Hl.out];omega);obtain⟨x,a7⟩:∃x,xs[k]?=V x:=⟨_,gE (by rw[Hl.out];omega)⟩;obtain⟨q,bY⟩:∃q,qs[k]?=V q:=⟨_,gE (by rw[Sq.ql];omega)⟩;have cK:=ad k x a7;have z:=hc.1 x (lM a7);unfold C4 at z;have cC:=hd9 a7;have dr:=hd9 bY;have dt:=hd9 ad;have k0:(0:Int)<=(k:Int):=oM
   have k1:(k:Int)<(m:Int):=oM
   have b0:Ints 3 wr (O ar mr cr) rs:=ro.ints;have HN:Hid (0<=x+10000*R):=hd9 oM;clear rl rv Sq ad a7 bY;go_wp2;refine zae (fun i=>decide (9<i)) (CellL [(⟨w.heap.size,1,Y⟩,O (V ⟨b,o,Y⟩) m c),(⟨b,o+k,Y⟩,Z X x),(⟨g,1,Y⟩,O ar mr cr),(⟨g,0,Y⟩,Z X sr)]) kM ?_ (fun f=>?_)
   ·exact cA
   refine sN 0 ?_
   iterate 5
    refine tun ?_
   refine oN ?_;refine sN 6 ?_
   iterate 2
    refine tun ?_
   refine oN ?_;have bG:=f;refine cu1 (i:=5) fun K t=>?_
   go_simp;refine kO t (fun _=>cE f ((eR wr.drew).alloc _)) (fun f=>?_);clear t K;have f:=f rfl;refine cu1 (i:=8) fun K t=>?_
   refine zko za0 Tryz.underlying64 rfl _ _ rfl rfl (znn wr.drew 3 x) rfl (b0.ext ((eR wr).drew.alloc _)) (by simp;omega) sM ?_;intro v5 w5 am aC;have X5:Ext wr w5:=((eR wr).drew.alloc (I #[Z X x] 3)).thenB aC (nE _);refine kO t (fun _=>cE bG (((eR wr.drew).alloc (I #[Z X x] 3)).thenB aC (nE _))) (fun f=>?_);clear t K
   replace f:=f rfl
   obtain⟨a5,c5,rfl⟩:=am.form;simp only[List.singleton_append,List.length_cons]at am ⊢
   have bP:dv C4 (x::rs)=x+10000*R:=by
    rw[zbd,Rv.out];rfl
   have bz:=hd9 bP;clear bP;refine cu1 (i:=9) fun K t=>?_
   go_simp
   (with_reducible refine cM (zgf _ 1 _ (x::rs) (x+10000*R) am.ints (by simp;omega) (fun y hy=>?_) (by rw[bz.out];exact HN.out) (by rw[bz.out];omega) (fun _=>.inl rfl)) ?_)
   ·rcases List.mem_cons.1 hy with rfl|hy
    ·omega
    ·have:=rc.1 y hy;unfold C4 at this;omega
   rintro e w6 ⟨r6,rfl,aS,bq⟩;obtain⟨s6,a6,m6,c6,rfl,ca⟩:=aS.form2;have ds:=hd9 ca;clear ca
   go_wp2_with fail
   refine kO t (fun _=>cE f bq) (fun f=>?_);clear t K
   replace f:=f rfl
   have X6:Ext wr w6:=X5.trans bq;have dn:g<w6.heap.size:=X6.lt zt;obtain⟨cH,cN⟩:=X6.cells;refine cu1 (i:=10) fun K t=>?_
   go_simp;refine kO t (fun h=>nomatch h) (fun f=>?_);clear t K;refine doneHU kM ?_ _;obtain⟨Rn,bk⟩:=gX (x+10000*R);rw[bk]at aS;have cx:=hd9 bk;have bM:0<=Rn:=oM
   have bN:Rn<D*10000:=oM
   have aW:NB w6 g R:=(NB.ext ⟨sr,ar,mr,cr,ac,aD.isN⟩ X6);obtain⟨wi,aA⟩:=gX ((w6.setCell ⟨g,0,Y⟩ (Z X s6)).setCell ⟨g,1,Y⟩ (O a6 m6 c6))
   have i1:OB wi (W0.heap.size+1) g Rn:=by
    rw[<-aA];exact OB.put aW (aS.mono (by have:=ai.size;have:=X5.size;omega))
   have i2:wi.heap[g+1]?=V (I #[Z X p,O a' m' c'] 66 (0,0)):=by
    rw[<-aA,bS _ _ _ _ sM,bS _ _ _ _ sM];exact X6.heapS r.out.size
   have i3:Own 3 wi W0.heap.size (O (V ⟨W0.heap.size,0,Y⟩) m m) qs:=by
    rw[<-aA];exact((r.out.row.keep X6.keep).setOther (p:=⟨g,0,Y⟩) (by simp[Value.ownBlock];omega) _).setOther (p:=⟨g,1,Y⟩) (by simp[Value.ownBlock];omega) _
   have i4:Ext W0 wi:=by
    rw[<-aA];exact((ai.trans X6).set (p:=⟨g,0,Y⟩) dO _).set (p:=⟨g,1,Y⟩) dO _
   have i5:IsN wi (J #[Z X s6,O a6 m6 c6]) Rn:=by rw[<-aA];exact aS.isN.keep (((KeepT.refl _ w6).setN aW.not _).setN (aW.not.set _ _) _)
   have i6:wi.heap[g]?=V (I #[Z X s6,O a6 m6 c6] 66 (0,0)):=by
    obtain⟨u1,u2,u3,u4,u5,u6⟩:=aW;rw[<-aA];exact zaj u5 _ _
   have bx:=hd9 r.out.val;have bw:=hd9 r.out.qd;have aM:=hd9 r.out.ql;rw[aA];clear aA aS bq cH cN f bG X5 X6 aW am aC aD ac b0 ro rc cK r e0 e1 d0 d1 t0 t1 zd zt dn bk;have m0:=qcB i6 (i:=0) (u:=Z X s6) rfl;have m1:=qcB i6 (i:=1) (u:=O a6 m6 c6) rfl;have m2:=qcB i2 (i:=0) (u:=Z X p) rfl;have m3:=qcB i2 (i:=1) (u:=O a' m' c') rfl;have zi:=zaa i2;have di:g<wi.heap.size:=oM
   obtain⟨wo,rfl⟩:∃wo:M,wo=wr:=⟨_,rfl⟩;go_wp2
   go_loopw [10,11] (QuI wi D Rn) (fun da db _=>(intOf db-intOf da).toNat)
   case atStart=>exact⟨0,10000,rfl,rfl,by omega,by omega,by omega,by omega,bN,eR _⟩
   case round =>
    obtain⟨lo,aH,rfl,rfl,l0,l1,l2,l3,l4,Xi⟩:=hrel;have M0:=Xi.cellS m0;have M1:=Xi.cellS m1;have M2:=Xi.cellS m2;have M3:=Xi.cellS m3;have ZW:g+1<wr.heap.size:=Xi.lt zi;have bh:g<wr.heap.size:=oM
    have bg:Ext w wr:=aG.out.trans (i4.trans Xi);have aL:Hid (Lm limG D):=hd9 (aK.out.mono dM)
    by_cases dF:1<aH-lo
    ·obtain⟨md,cP⟩:=gX (Int.tdiv (lo+aH) 2)
     have bV:md=(lo+aH) / 2:=by rw[<-cP,Int.tdiv_eq_ediv_of_nonneg oM]
     have cY:lo<md:=oM
     have cZ:md<aH:=oM
     have br:0<=md:=oM
     have cf:md<=10000:=oM
     obtain⟨P,hP⟩:=gX (D*md);have bI:0<=P:=by rw[<-hP];exact Int.mul_nonneg oM br
     obtain⟨T,hT⟩:=gX (((P.natAbs:Int)-(Rn.natAbs:Int)).sign)
     have a0:T<=0 ↔ P<=Rn:=by
      rw[<-hT]
      rcases zai ((P.natAbs:Int)-(Rn.natAbs:Int))with ⟨e,_⟩|⟨e,_⟩|⟨e,_⟩<;>omega
     have HT:=hd9 hT;have HP:=hd9 hP;have a4:=i5.ext Xi;clear bV hT hP
     by_cases bn:P<=Rn
     ·have cF:T<=0:=a0.2 bn
      clear a0;go_wp2
      go_region_held3 (fun W=>W.cell? ⟨g,0,Y⟩=V (Z X s6)/\W.cell? ⟨g,1,Y⟩=V (O a6 m6 c6)/\W.cell? ⟨g+1,0,Y⟩=V (Z X p)/\W.cell? ⟨g+1,1,Y⟩=V (O a' m' c')) ((repeat' (with_reducible refine And.intro ?_ ?_))<;>(first|(go_simp;done)|(refine ad.cellS ?_;go_simp;done))) (first|(go_at_call 192;(with_reducible refine(zcM _ (J #[Z X p,O a' m' c']) D md ?_ aL.out br cf).mono ?_);(refine aI.ext ?_;exact bg.drew);rw[HP.out];rintro e w8 ⟨r8,rfl,ae,l⟩;obtain⟨s8,a8,m8,c8,rfl,-⟩:=ae.form2;obtain⟨cI,cO⟩:=cK0 l;(have z8:g<w8.heap.size:=l.lt bh);(have de:g+1<w8.heap.size:=l.lt ZW))|(go_at_call 191;(with_reducible refine(zcj _ (J #[Z X s8,O a8 m8 c8]) (J #[Z X s6,O a6 m6 c6]) P Rn ae ?_).mono ?_);(refine a4.ext ?_;exact(eR wr).drew.trans l);rw[HT.out];rintro e w9 ⟨rfl,af⟩;obtain⟨al,a1⟩:=cK0 af))
      all_goals go_wp2
      go_roundw
      case rel=>exact⟨md,aH,rfl,rfl,by omega,cZ,l2,by rw[HP.out];exact bn,l4,Xi.trans ((eR wr).drew.trans (l.trans af))⟩
      case measure=>simp[intOf];omega
     ·have cF:¬T<=0:=fun h=>bn (a0.1 h)
      clear a0;go_wp2
      go_region_held3 (fun W=>W.cell? ⟨g,0,Y⟩=V (Z X s6)/\W.cell? ⟨g,1,Y⟩=V (O a6 m6 c6)/\W.cell? ⟨g+1,0,Y⟩=V (Z X p)/\W.cell? ⟨g+1,1,Y⟩=V (O a' m' c')) ((repeat' (with_reducible refine And.intro ?_ ?_))<;>(first|(go_simp;done)|(refine ad.cellS ?_;go_simp;done))) (first|(go_at_call 192;(with_reducible refine(zcM _ (J #[Z X p,O a' m' c']) D md ?_ aL.out br cf).mono ?_);(refine aI.ext ?_;exact bg.drew);rw[HP.out];rintro e w8 ⟨r8,rfl,ae,l⟩;obtain⟨s8,a8,m8,c8,rfl,-⟩:=ae.form2;obtain⟨cI,cO⟩:=cK0 l;(have z8:g<w8.heap.size:=l.lt bh);(have de:g+1<w8.heap.size:=l.lt ZW))|(go_at_call 191;(with_reducible refine(zcj _ (J #[Z X s8,O a8 m8 c8]) (J #[Z X s6,O a6 m6 c6]) P Rn ae ?_).mono ?_);(refine a4.ext ?_;exact(eR wr).drew.trans l);rw[HT.out];rintro e w9 ⟨rfl,af⟩;obtain⟨al,a1⟩:=cK0 af))
      all_goals go_wp2
      go_roundw
      case rel=>exact⟨lo,md,rfl,rfl,l0,cY,by omega,l3,by rw[HP.out];omega,Xi.trans ((eR wr).drew.trans (l.trans af))⟩
      case measure=>simp[intOf];omega
    ·obtain rfl:aH=lo+1:=oM
     obtain⟨P,hP⟩:=gX (D*lo);have bI:0<=P:=by rw[<-hP];exact Int.mul_nonneg oM l0
     have dC:P<=Rn:=oM
     have dD:Rn<P+D:=by rw[Int.mul_add,hP]at l4;omega
     have HP:=hd9 hP;have co:Hid (Lm limG Rn):=hd9 ((zoc aK.out oM bM oM).mono dM);have cn:Hid (Lm limG P):=hd9 ((zoc aK.out oM bI oM).mono dM);have cW:lo<=10000:=oM
     have j3:Own 3 wr W0.heap.size (O (V ⟨W0.heap.size,0,Y⟩) m m) qs:=i3.keep Xi.keep;have j4:OB wr (W0.heap.size+1) g Rn:=i1.ext Xi;have j2:=Xi.heapS i2;have jx:=i4.trans Xi;have cU:wr.frozen? ⟨W0.heap.size,k,Y⟩=false:=j3.frozen k;obtain⟨q,hq⟩:∃q,qs[k]?=V q:=⟨_,gE (by rw[aM.out];omega)⟩;have cV:=j3.cell hq;have a4:=i5.ext Xi;have cg:=qfB (Xi.heapS i6) 0;have tf1:=qfB (Xi.heapS i6) 1;have bW:¬g=W0.heap.size:=oM
     have bX:¬g+1=W0.heap.size:=oM
     have dq:W0.heap.size<wr.heap.size:=oM
     clear hP hq;go_wp2;obtain⟨wq,aF⟩:=gX (wr.setCell ⟨W0.heap.size,k,Y⟩ (Z X lo));have b1:OB wq (W0.heap.size+1) g Rn:=by rw[<-aF];exact j4.setRow oM oM _
     have b6:wq.heap[g]?=V (I #[Z X s6,O a6 m6 c6] 66 (0,0)):=by rw[<-aF,bS _ _ _ _ (by simpa using bW)];exact Xi.heapS i6
     have b2:wq.heap[g+1]?=V (I #[Z X p,O a' m' c'] 66 (0,0)):=by rw[<-aF,bS _ _ _ _ (by simpa using bX)];exact j2
     have b3:Own 3 wq W0.heap.size (O (V ⟨W0.heap.size,0,Y⟩) m m) (qs.set k lo):=by rw[<-aF];exact j3.stored k lo
     have b4:Ext W0 wq:=by rw[<-aF];exact jx.set (p:=⟨W0.heap.size,k,Y⟩) (nE _) _
     have b5:IsN wq (J #[Z X s6,O a6 m6 c6]) Rn:=by
      obtain⟨u1,u2,u3,u4,u5,u6⟩:=b1;rw[b6]at u5
      cases u5
      exact u6.isN
     have b7:IsN wq (J #[Z X p,O a' m' c']) D:=aI.ext (aG.out.trans b4);have o0:=qcB b6 (i:=0) (u:=Z X s6) rfl;have o1:=qcB b6 (i:=1) (u:=O a6 m6 c6) rfl;have o2:=qcB b2 (i:=0) (u:=Z X p) rfl;have o3:=qcB b2 (i:=1) (u:=O a' m' c') rfl;have dL:=qfB b6 0;have dN:=qfB b6 1;have zq:=zaa b2;have dl:g<wq.heap.size:=oM
     rw[aF];clear aF M0 M1 M2 M3 ZW bh bg cU cV cg tf1 j4 j2 j3 jx m0 m1 m2 m3 i1 i2 i3 i4 i5 i6 a4 zi di Xi;refine zae (fun i=>decide (4<i)) (CellL [(⟨g,0,Y⟩,Z X s6),(⟨g,1,Y⟩,O a6 m6 c6),(⟨g+1,0,Y⟩,Z X p),(⟨g+1,1,Y⟩,O a' m' c')]) kM ?_ (fun f=>?_)
     ·exact cA
     refine sN 0 ?_
     iterate 3
      refine tun ?_
     refine oN ?_;refine cu1 (i:=3) fun K t=>?_
     go_simp
     (with_reducible refine cM (zcM _ (J #[Z X p,O a' m' c']) D lo (b7.ext (eR wq).drew) aL.out l0 cW) ?_)
     rintro e w8 ⟨r8,rfl,ae,l⟩;rw[HP.out]at ae;obtain⟨s8,a8,m8,c8,rfl,-⟩:=ae.form2
     go_wp2_with fail
     refine kO t (fun _=>cE f l) (fun f=>?_);clear t K
     replace f:=f rfl
     refine cu1 (i:=4) fun K t=>?_
     go_simp
     (with_reducible refine cM (zmg _ (J #[Z X s6,O a6 m6 c6]) (J #[Z X s8,O a8 m8 c8]) Rn P (b5.ext ((eR wq).drew.trans l)) ae co.out cn.out) ?_)
     rintro e w9 ⟨r9,rfl,aT,af⟩;obtain⟨s9,a9,m9,c9,rfl,-⟩:=aT.form2
     go_wp2_with fail
     refine kO t (fun _=>cE f af) (fun f=>?_);clear t K
     replace f:=f rfl
     have X9:Ext wq w9:=(eR wq).drew.trans (l.trans af);have dm:g<w9.heap.size:=X9.lt dl;have n9:NB w9 g Rn:=b1.nb.ext X9;obtain⟨al,a1⟩:=X9.cells;refine cu1 (i:=5) fun K t=>?_
     go_simp;refine kO t (fun h=>nomatch h) (fun f=>?_);clear t K;refine doneHU kM ?_ _;go_wp2
     go_roundw
     case rel =>
      refine⟨(k:Int)-1,qs.set k lo,Rn-P,rfl,by omega,by omega,by simp[aM.out],?_,bw.out.set oM (by unfold C4;omega) _,OB.put n9 (aT.mono ?_),?_,?_,by omega,by omega,?_⟩
      ·exact((b3.keep X9.keep).setOther (p:=⟨g,0,Y⟩) (by simp[Value.ownBlock];omega) _).setOther (p:=⟨g,1,Y⟩) (by simp[Value.ownBlock];omega) _
      ·have:=b4.size;have:=l.size;simp only[qdZ]at this;omega
      ·rw[bS _ _ _ _ sM,bS _ _ _ _ sM];exact X9.heapS b2
      ·have e1:(qs.set k lo)[k]?=V lo:=List.getElem?_set_self (by rw[aM.out];omega)
       have e2:(qs.set k lo).drop (k+1)=qs.drop (k+1):=List.drop_set_of_lt oM;have h9:=bx.out;rw[show ((k:Int)+1).toNat=k+1 by omega,<-e2]at h9;rw[show ((k:Int)-1+1).toNat=k by omega,zlA cC.out e1 h9,<-HP.out,<-cx.out,Int.mul_comm lo D];rfl
      ·exact((b4.trans X9).set (p:=⟨g,0,Y⟩) dO _).set (p:=⟨g,1,Y⟩) dO _
     case measure=>simp[intOf]
  ·obtain rfl:j = -1:=oM
   clear e0 e1 d0 d1 zd ai j0 j1 hj;obtain⟨Q,hQ⟩:=gX (dv C4 qs);have ay:=r.out.val;simp only[show ((-1:Int)+1).toNat=0 from rfl,List.drop_zero]at ay;rw[Hv.out,hQ]at ay;have aZ:=r.out.r0;have bj:=r.out.r1;have bJ:0<=Q:=by rw[<-hQ];exact(zak zbk r.out.qd).1
   have aP:Q<=(na.natAbs:Int):=zoq ay bF aZ bJ
   have bK:Q≠0->s=1\/s = -1:=fun h9=>by
    rw[Hs.out];exact zho (fun h8=>h9 (by rw[h8]at aP;simp at aP;omega))
   obtain⟨N1,bi⟩:=gX (s*Q);have be:N1=na.sign*Q:=by rw[<-bi,Hs.out]
   have cc:s = -1\/s=0\/s=1:=by rcases zai na with ⟨e,_⟩|⟨e,_⟩|⟨e,_⟩<;>rw[Hs.out,e]<;>decide
   have bH:(N1.natAbs:Int)<=na.natAbs:=by rcases cc with h|h|h<;>subst h<;>omega
   have cm:Hid (Lm limG N1):=hd9 (Lm.mono (j:=limE) (by have:=cp.out;unfold Lm at *;omega) dM);have bv:Hid (Lm limG D):=hd9 (aK.out.mono dM);have cq:Hid (Lm limG R):=hd9 (by have:=bv.out;unfold Lm at *;omega);have bu:Hid (Lm limG 1):=hd9 (zey dM);have bl:(na.natAbs:Int)=Q*(nd.natAbs:Int)+R:=by rw[HD.out];exact ay
   have aw:=zj5 (N:=N1) Hd.out bl aZ (by rw[HD.out];exact bj);have aQ:=zj5 (N:=N1-1) Hd.out bl aZ (by rw[HD.out];exact bj);have ck:=hd9 aw.1;have cl:=hd9 aQ.2;have cw:=hd9 bK;have ct:=hd9 bi;have bc:=hd9 be;have HQ:=hd9 hQ;clear ay hQ bK bi be aP bl aw aQ bH cc;have ai:=r.out.ext;have e0:=ai.cellS p0;have e1:=ai.cellS p1;have d0:=qcB r.out.size (i:=0) (u:=Z X p) rfl;have d1:=qcB r.out.size (i:=1) (u:=O a' m' c') rfl;obtain⟨sr,ar,mr,cr,ac,aD⟩:=r.out.rest;have t0:=qcB ac (i:=0) (u:=Z X sr) rfl;have t1:=qcB ac (i:=1) (u:=O ar mr cr) rfl;have zd:=zaa r.out.size;have dh:g<wr.heap.size:=oM
   have dg:w.heap.size<wr.heap.size:=oM
   have cd:sr=R.sign:=aD.isN.sgn;have bC:=hd9 cd;have cy:Hid (∀x∈qs,-100000000000000<=x/\x<=100000000000000):=hd9 (fun x hx=>by have:=r.out.qd x hx;unfold C4 at this;omega);clear cd
   go_upto_region 16 with (go_at_call 152;(with_reducible refine(zbO _ s _ qs N1 r.out.row.ints (by rw[r.out.ql];omega) cy.out (by rw[HQ.out];exact bJ) (by rw[HQ.out];exact ct.out.symm) (by rw[HQ.out];exact cw.out)).mono ?_);rintro e w3 ⟨r3,rfl,bo,an⟩;obtain⟨s3,a3,m3,c3,rfl,-⟩:=bo.form2;obtain⟨cG,cL⟩:=an.cells;(have u7:g+1<w3.heap.size:=an.lt zd);(have dd:g<w3.heap.size:=an.lt dh);(have u0:w.heap.size<w3.heap.size:=an.lt dg))
   obtain⟨ag,az⟩:=gX (w3.alloc (I #[Z X s3,O a3 m3 c3] 66));have ah:Ext wr ag:=by rw[<-az];exact an.alloc _
   have ao:ag.heap[w3.heap.size]?=V (I #[Z X s3,O a3 m3 c3] 66 (0,0)):=by rw[<-az];exact aN _ _
   have aR:IsN ag (J #[Z X s3,O a3 m3 c3]) N1:=by rw[<-az];exact bo.ext ((eR _).alloc _)
   have ak:NB ag w3.heap.size N1:=⟨_,_,_,_,ao,aR⟩;have aX:NB ag g R:=NB.ext ⟨sr,ar,mr,cr,ac,aD.isN⟩ ah;have bZ:=ah.heapS ac;have ba:=ah.heapS r.out.size;rw[az];obtain⟨aa,bf⟩:=gX w3.heap.size;rw[bf]at u7 dd u0 ao ak ⊢;clear az cG cL an bo bf aD ac
   replace e0:=ah.cellS e0
   replace e1:=ah.cellS e1
   replace d0:=ah.cellS d0
   replace d1:=ah.cellS d1
   replace t0:=ah.cellS t0
   replace t1:=ah.cellS t1
   have X0:Ext W0 ag:=ai.trans ah;have cj:aa<ag.heap.size:=zaa ao;obtain⟨bb,bO⟩:=gX (decide (na<0/\R≠0));have aO:=hd9 bO;have y0:w.heap.size<ag.heap.size:=oM
   have y7:g<ag.heap.size:=oM
   have y8:g+1<ag.heap.size:=oM
   clear bO
   go_cut [75] (fun dc W=>dc = .bool bb/\W=ag)
   case first =>
    by_cases b8:s<0
    ·have hn:na<0:=by
      have:=Hs.out
      rcases zai na with ⟨e,h⟩|⟨e,h⟩|⟨e,h⟩<;>omega
     by_cases ax:sr=0
     ·have hR:R=0:=by
       have:=bC.out
       rcases zai R with ⟨e,h⟩|⟨e,h⟩|⟨e,h⟩<;>omega
      have e:bb=false:=by rw[<-aO.out];simp[hR]
      have ce:(sr != 0)=false:=by simp[ax]
      clear ax;go_wp2;go_meet;exact⟨by rw[e],rfl⟩
     ·have hR:R≠0:=by
       intro h;have:=bC.out;rw[h]at this;exact ax (by rw[this];rfl)
      have e:bb=true:=by rw[<-aO.out];simp[hR,hn]
      have ce:(sr != 0)=true:=by simpa using ax
      clear ax;go_wp2;go_meet;exact⟨by rw[e],rfl⟩
    ·have hn:¬na<0:=by
      have:=Hs.out
      rcases zai na with ⟨e,h⟩|⟨e,h⟩|⟨e,h⟩<;>omega
     have e:bb=false:=by rw[<-aO.out];simp[hn]
     go_wp2;go_meet;exact⟨by rw[e],rfl⟩
   case rest =>
    obtain⟨rfl,rfl⟩:=hcut
    go_upto_if 75 with fail
    go_cut [13] (QuT W0 g (g+1) #[Z X p,O a' m' c'] (if bb then N1-1 else N1) (if bb then D-R else R))
    case first =>
     cases bb with
     | false =>
      go_wp2;go_meet;exact⟨aa,rfl,by omega,by omega,ak,aX,ba,X0⟩
     | true =>
      have f3:=qcB ao (i:=0) (u:=Z X s3) rfl;have f4:=qcB ao (i:=1) (u:=O a3 m3 c3) rfl;have f5:=qfB ao 0;have f6:=qfB ao 1;go_wp2;refine zae (fun i=>decide (2<i)) (CellL [(⟨aa,0,Y⟩,Z X s3),(⟨aa,1,Y⟩,O a3 m3 c3)]) kM ?_ (fun f=>?_)
      ·exact cA
      refine tu1 (i:=0) ?_;refine cu1 (i:=1) fun K t=>?_
      go_simp
      (with_reducible refine cM (zbm _ 1 dM dM) ?_)
      rintro e w8 ⟨r8,rfl,ae,l⟩;obtain⟨s8,a8,m8,c8,rfl,-⟩:=ae.form2
      go_wp2_with fail
      refine kO t (fun _=>cE f l) (fun f=>?_);clear t K
      replace f:=f rfl
      refine cu1 (i:=2) fun K t=>?_
      go_simp
      (with_reducible refine cM (zeL _ (J #[Z X s3,O a3 m3 c3]) (J #[Z X s8,O a8 m8 c8]) N1 1 (aR.ext ((eR wc).drew.trans l)) ae cm.out bu.out) ?_)
      rintro e w9 ⟨r9,rfl,aT,af⟩;obtain⟨s9,a9,m9,c9,rfl,-⟩:=aT.form2
      go_wp2_with fail
      refine kO t (fun _=>cE f af) (fun f=>?_);clear t K
      replace f:=f rfl
      have X9:Ext wc w9:=(eR wc).drew.trans (l.trans af);have dm:aa<w9.heap.size:=X9.lt cj;obtain⟨al,a1⟩:=X9.cells;refine cu1 (i:=3) fun K t=>?_
      go_simp;refine kO t (fun h=>nomatch h) (fun f=>?_);clear t K;refine doneHU kM ?_ _;obtain⟨wa,aJ⟩:=gX ((w9.setCell ⟨aa,0,Y⟩ (Z X s9)).setCell ⟨aa,1,Y⟩ (O a9 m9 c9));have n9:=ak.ext X9;have cD:NB wa aa (N1-1):=by rw[<-aJ];exact n9.put aT
      have c7:NB wa g R:=by
       rw[<-aJ];exact((aX.ext X9).other (p:=⟨aa,0,Y⟩) dO n9.not _).other (p:=⟨aa,1,Y⟩) dO (n9.not.set _ _) _
      have aY:wa.heap[g+1]?=V (I #[Z X p,O a' m' c'] 66 (0,0)):=by
       rw[<-aJ,bS _ _ _ _ dO,bS _ _ _ _ dO];exact X9.heapS ba
      have cX:Ext W0 wa:=by
       rw[<-aJ];exact((X0.trans X9).set (p:=⟨aa,0,Y⟩) dO _).set (p:=⟨aa,1,Y⟩) dO _
      rw[aJ];clear aJ f al a1 f3 f4 f5 f6;obtain⟨sv,av,mv,cv,-,v0,v1,ch,ci,vz,aV⟩:=c7.rd;have d2:=qcB aY (i:=0) (u:=Z X p) rfl;have d3:=qcB aY (i:=1) (u:=O a' m' c') rfl;have zz:=zaa aY;have cR:IsN wa (J #[Z X p,O a' m' c']) D:=aI.ext (aG.out.trans cX)
      go_wp2_with(go_at_call 151;(with_reducible refine(zeL _ (J #[Z X p,O a' m' c']) (J #[Z X sv,O av mv cv]) D R cR aV bv.out cq.out).mono ?_);rintro e wb ⟨rb,rfl,aU,z⟩;obtain⟨sb,ab,mb,cb,rfl,-⟩:=aU.form2;obtain⟨cJ,a2⟩:=z.cells)
      go_meet;refine⟨aa,rfl,by omega,by omega,?_,(c7.ext z).put aU,?_,?_⟩
      ·exact((cD.ext z).other (p:=⟨g,0,Y⟩) dO (c7.ext z).not _).other (p:=⟨g,1,Y⟩) dO ((c7.ext z).not.set _ _) _
      ·rw[bS _ _ _ _ sM,bS _ _ _ _ sM];exact z.heapS aY
      ·exact((cX.trans z).set (p:=⟨g,0,Y⟩) dO _).set (p:=⟨g,1,Y⟩) dO _
    case rest =>
     obtain⟨N2,ap⟩:=gX ((if bb=true then N1-1 else N1));obtain⟨R2,aq⟩:=gX ((if bb=true then D-R else R));rw[ap,aq]at hcut
     have aw:(if nd<0 then -N2 else N2)=na / nd/\R2=na % nd:=by
      by_cases al:na<0/\R≠0
      ·have e:bb=true:=by rw[<-aO.out];simpa using al
       rw[e]at ap aq;simp only[if_true]at ap aq;have:=cl.out al (by rw[bc.out]);rw[HD.out,ap,aq]at this;exact this
      ·have e:bb=false:=by rw[<-aO.out];simpa using al
       rw[e]at ap aq;simp only[Bool.false_eq_true,if_false]at ap aq;have:=ck.out al bc.out;rw[ap,aq]at this;exact this
     have bA:=hd9 aw;clear aw ap aq ak aX ba X0 t0 t1 d0 d1 e0 e1 ao aR bZ y0 y7 y8 cj;obtain⟨ga,rfl,bD,bE,aj,bs,bt,Xa⟩:=hcut;have e2:=Xa.cellS q0;have dp:w.heap.size+1<wc.heap.size:=Xa.lt z2
     go_upto_if 84 with fail
     go_cut [13] (QuT W0 g (g+1) #[Z X p,O a' m' c'] (if nd<0 then -N2 else N2) R2)
     case first =>
      by_cases cQ:nd<0
      ·have b8:s'<0:=by
        have:=bB.out
        rcases zai nd with ⟨e,h⟩|⟨e,h⟩|⟨e,h⟩<;>omega
       obtain⟨sv,av,mv,cv,-,v0,v1,ch,ci,vz,aV⟩:=aj.rd
       go_wp2_with(go_at_call 193;(with_reducible refine(zcw _ (J #[Z X sv,O av mv cv]) N2 aV).mono ?_);rintro e wb ⟨rb,rfl,aU,z⟩;obtain⟨sb,ab,mb,cb,rfl,-⟩:=aU.form2;obtain⟨cJ,a2⟩:=z.cells)
       go_meet;refine⟨ga,rfl,by omega,by omega,?_,?_,?_,?_⟩
       ·rw[if_pos cQ];exact(aj.ext z).put aU
       ·exact((bs.ext z).other (p:=⟨ga,0,Y⟩) dO (aj.ext z).not _).other (p:=⟨ga,1,Y⟩) dO ((aj.ext z).not.set _ _) _
       ·rw[bS _ _ _ _ dO,bS _ _ _ _ dO];exact z.heapS bt
       ·exact((Xa.trans z).set (p:=⟨ga,0,Y⟩) dO _).set (p:=⟨ga,1,Y⟩) dO _
      ·have b8:¬s'<0:=by
        have:=bB.out
        rcases zai nd with ⟨e,h⟩|⟨e,h⟩|⟨e,h⟩<;>omega
       go_wp2;go_meet;exact⟨ga,rfl,bD,bE,by rw[if_neg oM];exact aj,bs,bt,Xa⟩
     case rest =>
      obtain⟨bQ,a2⟩:=bA.out;rw[bQ,a2]at hcut;clear bQ a2 e2 dp aj bs bt Xa bD bE;obtain⟨gb,rfl,dz,dB,ak,aX,ba,Xb⟩:=hcut;obtain⟨sv,av,mv,cv,-,v0,v1,ch,ci,vz,aV⟩:=ak.rd;obtain⟨su,au,mu,cu,-,u0,u1,dP,dQ,uz,cT⟩:=aX.rd;have o1:=Xb.heapS cz.out;have o2:=Xb.heapS cB.out;have c0:=qcB o1 (i:=0) (u:=Z X 0) rfl;have c1:=qcB o1 (i:=1) (u:=O Y 0 0) rfl;have c2:=qcB o2 (i:=0) (u:=Z X 0) rfl;have c4:=qcB o2 (i:=1) (u:=O Y 0 0) rfl;have du:=qfB o1 0;have dw:=qfB o1 1;have dx:=qfB o2 0;have dy:=qfB o2 1;have dj:=zaa o1;have dk:=zaa o2;have dJ:¬g=w.heap.size+1+1:=oM
      have dK:¬gb=w.heap.size+1+1:=oM
      have n1:NoT 3 wc (w.heap.size+1+1):=by intro cs fr e;rw[o1]at e;cases e
      have n2:NoT 3 wc (w.heap.size+1+1+1):=by intro cs fr e;rw[o2]at e;cases e
      have XF:Ext w wc:=aG.out.trans Xb;clear o1 o2;go_wp2;refine zae (fun i=>decide (2<i)) (CellL [(⟨gb,0,Y⟩,Z X sv),(⟨gb,1,Y⟩,O av mv cv),(⟨g,0,Y⟩,Z X su),(⟨g,1,Y⟩,O au mu cu)]) kM ?_ (fun f=>?_)
      ·exact cA
      refine sN 0 ?_
      iterate 2
       refine tun ?_
      refine oN ?_;refine cu1 (i:=2) fun K t=>?_
      go_simp;refine kO t (fun _=>?_) (fun f=>?_)
      ·exact cA
      clear t K
      replace f:=f rfl
      refine cu1 (i:=3) fun K t=>?_
      go_simp;refine kO t (fun h=>nomatch h) (fun f=>?_);clear t K;refine doneHU kM ?_ _;go_wp2;refine bR (v:=.tuple #[J #[Z X sv,O av mv cv],J #[Z X su,O au mu cu]]) (by simp[results,Tryz.results142,go_sem,c0,c1,c2,c4,dj,dk]) rfl ⟨_,_,rfl,?_,?_,eA⟩
      ·exact aV.keep (((((KeepT.refl _ wc).setN n1 _).setN (n1.set _ _) _).setN ((n2.set _ _).set _ _) _).setN (((n2.set _ _).set _ _).set _ _) _)
      ·exact cT.keep (((((KeepT.refl _ wc).setN n1 _).setN (n1.set _ _) _).setN ((n2.set _ _).set _ _) _).setN (((n2.set _ _).set _ _).set _ _) _)
theorem ziR(w:M)(va:Value)(f:Nat)(ha:IsD w va f)(hl:Lm limT f) :
  Calls Tryz.prog 211 #[va] w fun e w'=>e = .returned (.string ⟨(textN f).toArray⟩)/\Ext w w':=by
 obtain⟨a0,m0,c0,rfl⟩:=ha.form;have Hl:=hd9 hl;have Ha:=hd9 ha;obtain⟨Tx,af⟩:=gX (textN f);rw[af];have aj:=hd9 af;clear ha hl af;go_enter Tryz.func211,Tryz.ntmps211;go_wp2
 go_loopg [3] f (TxS w f)
 case atStart=>exact⟨f,f+1,[],a0,m0,c0,rfl,by omega,by rw[List.append_nil],by simp,by simp,fun s hs=>(by cases hs),(eR _).alloc _,aN _ _,Ha.out.ext ((eR _).alloc _),OwnC.nil _ _ _ _,by simp⟩
 case round =>
  obtain⟨n,k,ps,a,m,c,hg,hk,aa,ag,ab,h7,hx,hb,hd,ho,hz⟩:=hrel;have Hx:=hd9 hx;have Hd:=hd9 hd;have k1:=cell_of_one hb;have kf:=free_of_one hb;have kf:=free_of_one hb
  by_cases h0:n=0
  ·have aC:((n:Int)==0)=true:=by simp[h0]
   have av:chunksF (f+1) f=ps:=by rw[aa,h0,zch,List.nil_append]
   have HJ:=hd9 (fun(W:M)(hW:Ext wr W)=>zlk W u3 w.heap.size ps (ho.ext hW) ag h7);obtain⟨va,vn,vc,rfl⟩:=ho.form3;obtain⟨T,hT⟩:=gX (Lib.trimLeftB ps.flatten 48);have aw:Tx=if T=[]then [48]else T:=by rw[<-aj.out];unfold textN;rw[av,hT]
   have HT:=hd9 hT;have ak:=hd9 aw;clear hg hk aa ag ab h7 hd ho av hT aw aj
   cases T with
   | nil =>
    go_wp2_with(first|((go_at_call 166;(with_reducible refine(zaB _ (J #[O a m c]) n ?_).mono ?_);(refine Hd.out.ext ?_;exact eA);rintro e w1 ⟨rfl,ac⟩))|(go_at_call 250;(with_reducible refine(HJ.out _ ?_).mono ?_);exact eA;rintro e l ⟨rfl,ad⟩)|(go_at_call 249;(with_reducible refine(Tryz.strings_TrimLeft_one _ 48 dM _).mono ?_);rintro e w3 ⟨rfl,rfl⟩;rw[HT.out]))
    go_ret;have e:Tx=[48]:=by have:=ak.out;simpa using this
    exact⟨by rw[e];rfl,Hx.out.trans eA⟩
   | cons t T =>
    go_wp2_with(first|((go_at_call 166;(with_reducible refine(zaB _ (J #[O a m c]) n ?_).mono ?_);(refine Hd.out.ext ?_;exact eA);rintro e w1 ⟨rfl,ac⟩))|(go_at_call 250;(with_reducible refine(HJ.out _ ?_).mono ?_);exact eA;rintro e l ⟨rfl,ad⟩)|(go_at_call 249;(with_reducible refine(Tryz.strings_TrimLeft_one _ 48 dM _).mono ?_);rintro e w3 ⟨rfl,rfl⟩;rw[HT.out]))
    go_ret;have e:Tx=t::T:=by have:=ak.out;simpa using this
    exact⟨by rw[e];rfl,Hx.out.trans eA⟩
  ·have aC:((n:Int)==0)=false:=by simp[h0]
   obtain⟨k',al,am,an,ao⟩:=TxS.step Hl.out h0 hk aa ab
   have ap:Lm limA (n:Int):=by
    have h9:=Hl.out;have h8:n<=f:=nT (Nat.le_mul_of_pos_right _ (Nat.pow_pos dM)) ab;have h7:Lm limA (f:Int):=h9.mono dM;exact⟨by have:=h7.1;have:(0:Int)<=B ^ limA:=Int.le_of_lt (zap zbt _);omega,by have:=h7.2;omega⟩
   have aA:=hd9 ap;have ae:Hid (n / 10000000<k'/\chunksF (f+1) f=chunksF k' (n / 10000000)++(fix7 (n % 10000000)::ps)/\(fix7 (n % 10000000)::ps).length<=2*limT/\n / 10000000*2 ^ (23*(fix7 (n % 10000000)::ps).length)<=f):=hd9 ⟨al,am,an,ao⟩;have az:=hd9 (show Lm limA 10000000 from Lm.mono (j:=1) ⟨by decide,by decide⟩ dM);clear ap al am an ao aa ag ab;obtain⟨g,aL⟩:=gX (n % 10000000);have aO:(n:Int) % 10000000=(g:Int):=oM
   have au:Lm 2 (g:Int):=⟨by unfold B;omega,by unfold B;omega⟩;have aB:=hd9 au;clear au
   go_upto_region 5 with (first|((go_at_call 166;(with_reducible refine(zaB _ (J #[O a m c]) n ?_).mono ?_);(refine Hd.out.ext ?_;exact eA);rintro e w1 ⟨rfl,ac⟩;obtain⟨aE,aH⟩:=ac.cells;(have z1:w.heap.size<w1.heap.size:=by have:=ac.size;omega)))|((go_at_call 182;(with_reducible refine(zhb _ (J #[O a m c]) (J #[O (V ⟨w1.heap.size,0,Y⟩) 1 1]) n 10000000 ?_ ?_ aA.out az.out dM).mono ?_);(refine Hd.out.ext ?_;exact eA);(exact znk w1 dM dM);rintro e l ⟨q,r,rfl,hq,hr,ad⟩;rw[aO]at hr;obtain⟨⟨R,mq,cq,rfl⟩,⟨ar,mr,cr,rfl⟩⟩:=And.intro hq.isD.form hr.isD.form;obtain⟨aF,aI⟩:=ad.cells;(have z2:w.heap.size<l.heap.size:=by have:=ad.size;simp only[wZ]at this;omega)))|((go_at_call 138;(with_reducible refine(zcH _ (J #[O ar mr cr]) (g:Int) ?_ aB.out).mono ?_);(refine hr.isD.ext ?_;exact eA);rintro e w3 ⟨rfl,ah⟩;(have z3:l.heap.size+1+1<=w3.heap.size:=by have:=ah.size;simp only[wZ]at this;omega))))
   clear aE aH aF aI;have X3:Ext wr w3:=eA;obtain⟨wo,rfl⟩:∃W,W=wr:=⟨_,rfl⟩;have aR:=mk7;go_wp2
   go_loopg [6,25] 7 (TiS w3 g w3.heap.size)
   case atStart=>exact⟨0,by omega,rfl,rfl,by rw[Nat.pow_zero,Nat.div_one],(eR _).alloc _,aN _ _⟩
   case round =>
    obtain⟨i,hi,aQ,rfl,rfl,d,L⟩:=hrel
    by_cases aJ:i<7
    ·obtain⟨x,ai⟩:=gX (g / 10 ^ i)
     rw[ai]
     have aS:x<10000000:=by
      have:g / 10 ^ i<=g:=Nat.div_le_self _ _;omega
     obtain⟨j,hj⟩:=gX (6-i);obtain⟨u,hu⟩:∃u,(fixA g i)[j]?=V u:=⟨_,Array.getElem?_eq_getElem (by unfold fixA;rw[List.size_toArray,lL,zgR];omega)⟩;have ki:=qcB L hu;have aV:=qfB L;have e6:IntKind.i64.wrap (6-(i:Int))=(j:Int):=by rw[iW _ oM];omega
     obtain⟨y,hy⟩:=gX (48+x % 10);have e7:IntKind.u64.wrap (48+(x:Int) % 10)=(y:Int):=by rw[IntWalk.u64_in _ oM];omega
     have e8:IntKind.u8.wrap (y:Int)=(y:Int):=IntWalk.u8_in _ oM;have z9:=d.size;go_wp2
     go_roundg (7-(i+1))
     case measure=>omega
     case rel =>
      refine⟨i+1,by omega,rfl,by go_num,?_,d.set (nE _) _,?_⟩
      ·rw[show g / 10 ^ (i+1)=x / 10 by rw[Nat.pow_succ,<-Nat.div_div_eq_div_mul,ai]]
       simp
      ·have h9:=zk7 g aJ
       rw[ai,hy,hj]at h9;rw[<-h9];simp[World.setCell,Array.getElem?_modify,L]
    ·obtain rfl:i=7:=oM
     have ay:=hd9 L;clear L
     go_upto_region 12 with fail
     have aG:(convert 308 9 (O (V ⟨w3.heap.size,0,Y⟩) 7 7)).run Tryz.prog wr.drew = .ok (.string ⟨(fix7 g).toArray⟩) wr.drew:=conv7 (W:=wr.drew) ay.out
     have c4:wr.cell? ⟨l.heap.size,0,Y⟩=V (O R mq cq):=by
      have h1:(l.alloc (I #[O R mq cq] 59)).cell? ⟨l.heap.size,0,Y⟩=V (O R mq cq):=by go_simp
      exact d.cellS (ah.cellS (Ext.cellS ((eR _).alloc _) h1))
     refine wp_region_held_drew (S:=CellL [(⟨l.heap.size,0,Y⟩,O R mq cq)]) kM cA (fun b=>?_);refine tk1 (i:=0) ?_;refine tk1 (i:=3) ?_;refine tk1 (i:=5) ?_;refine cl1 (i:=1) fun K o=>?_
     go_simp;refine kO o b (fun b=>?_);clear o K aG;refine cl1 (i:=2) fun K o=>?_
     go_simp;refine kO o (cE b ((eR _).alloc _)) (fun b=>?_);clear o K;refine cl1 (i:=4) fun K o=>?_
     have hA:Ext w wr:=Hx.out.trans (X3.trans d);refine zkp (T:=9) (t:=307) (z:=.string ⟨#[]⟩) (k:=1) (bytes:=16) (v:=O (V ⟨wr.heap.size,0,Y⟩) 1 1) (base:=w.heap.size) zlj rfl dM dM Tryz.underlying307 rfl _ _ rfl rfl (zon (fix7 g) hA.size) rfl (ps.map sc) zou ((ho.ext (((X3.trans d).alloc _).drew)).rd) zov ?_ ?_ ?_
     ·rw[lL,List.length_singleton]
      have h9:=ae.out.2.2.1;unfold limT at h9;rw[List.length_cons]at h9;omega
     ·have:=hA.size
      simp only[qdZ,wZ];omega
     intro v' w9 Q P aP;obtain⟨a9,n9,c9,rfl⟩:=Q.form3;have zb:l.heap.size<wr.heap.size:=by have:=d.size;omega
     refine kO o (CellL.grown b P (fun q hq e=>?_)) (fun b=>?_)
     ·have h9:wr.heap.size=l.heap.size:=by
       simp at hq;subst hq;exact Option.some.inj e.symm
      omega
     clear o K;have X9:Ext wr w9:=(((eR wr).alloc (I #[.string ⟨(fix7 g).toArray⟩] 9)).drew).thenB (zad (base:=wr.heap.size) P (by simp only[qdZ,wZ];omega) (fun k hk=>by cases hk;exact nE _)) (nE _);have D:w9.heap[w.heap.size]?=V (I #[O a m c] 59 (0,0)):=((X3.trans d).trans X9).heapS hb;have aT:=cell_of_one D;have aU:=free_of_one D;refine tk1 (i:=6) ?_
     have aM:IsD w9 (J #[O R mq cq]) ((n / 10000000:Nat):Int):=by
      have h9:IsD l (J #[O R mq cq]) ((n / 10000000:Nat):Int):=by rw[show ((n / 10000000:Nat):Int)=(n:Int) / 10000000 by omega];exact hq.isD
      exact((h9.ext ((((eR _).alloc _).alloc _).trans ah)).ext d).ext X9
     have hT:KeepT 2 w9 (w9.setCell ⟨w.heap.size,0,Y⟩ (O R mq cq)):=(KeepT.refl _ w9).set D dM _;have aD:KeepT 9 w9 (w9.setCell ⟨w.heap.size,0,Y⟩ (O R mq cq)):=(KeepT.refl _ w9).set D dM _
     have aK:∀q∈[((⟨l.heap.size,0,Y⟩:Addr),Value.slice R mq cq)],(⟨w.heap.size,0,Y⟩:Addr).block≠q.1.block:=by
      intro q hq;simp at hq;subst hq;dsimp only;omega
     refine cl1 (i:=7) fun K o=>?_
     go_simp;refine kO o (CellL.set b aK _) (fun b=>?_);clear o K;refine wpAnyH_done kM ?_ _;go_wp2;have ax:=hd9 D
     go_roundg (n / 10000000)
     case measure=>omega
     case rel =>
      obtain⟨g1,g2,g3,g4⟩:=ae.out;rw[aL]at g2 g3 g4;refine⟨n / 10000000,k',fix7 g::ps,R,mq,cq,rfl,g1,g2,g3,g4,?_,?_,?_,?_,?_,?_⟩
      ·intro s hs
       rcases List.mem_cons.1 hs with rfl|hs
       ·rfl
       ·exact h7 s hs
      ·exact Ext.set (p:=⟨w.heap.size,0,Y⟩) (hA.trans X9) (nE _) _
      ·exact one_setCell ax.out
      ·exact aM.keep hT
      ·exact Q.keep aD
      ·have:=hA.size
       have:=X9.size;simp;omega
end
section
open Go.RowKit Go.Shelf Go.Sort Go.Lib
def leastR(s:Sp):Rat×Rat:=bestR (gapR s) (stopsR s)
theorem zbs(s:Sp):stopsR s≠[]:=by
 unfold stopsR;intro h;have a:stopsZ s=[]:=List.map_eq_nil_iff.1 h;unfold stopsZ at a;have b:=zhO (zs:=isort (s.lo::s.hi::midP s (s.over++s.under))) (by intro c;have:=congrArg List.length c;rw[zbP]at this;simp at this);exact b a
theorem zcb(w:M)(t u:Value)(s:Sp)(p:IsPts w t s.over)(r:IsPts w u s.under)(d:SpOk s) :
  Calls Tryz.prog 59 #[spc s t u] w (RetR2 w (leastR s).1 (leastR s).2):=by
 have y:=hd9 (fun(W:M)(n:Ext w W)=>zfS W t u s (p.ext' n) (r.ext' n) d);have x:=hd9 (fun(W:M)(n:Ext w W)(v:Value)(hv:IsRs W v (stopsR s))=>zkS W v t u s (stopsR s) hv (p.ext' n) (r.ext' n) d (zas d));obtain⟨a1,m1,rfl⟩:=p.form;obtain⟨a2,m2,rfl⟩:=r.form;obtain⟨n1,f1⟩:=gX s.over.length;obtain⟨n2,f2⟩:=gX s.under.length;obtain⟨lo,m⟩:=gX s.lo;obtain⟨hi,l⟩:=gX s.hi;obtain⟨R,z⟩:=gX (RetR2 w (leastR s).1 (leastR s).2);rw[z];have HR:=hd9 z;unfold spc at y x ⊢;simp only[f1,f2,m,l]at y x ⊢;clear p r d f1 f2 m l z;have ad:∀(fn:Fn)(first cap:Array Value)(w:M),(Instr.makeFunc fn first cap).run Tryz.prog w = .ok (.func fn first cap) w:=fun _ _ _ _=>rfl
 go_enter Tryz.func59,Tryz.ntmps59;go_wp2;refine wp_region_held_drew (S:=CellL [(⟨w.heap.size,0,Y⟩,O a1 n1 m1),(⟨w.heap.size,1,Y⟩,O a2 n2 m2),(⟨w.heap.size,2,Y⟩,Z X lo),(⟨w.heap.size,3,Y⟩,Z X hi)]) kM cA (fun a=>?_);refine tk1 (i:=0) ?_;refine sN 2 ?_
 iterate 2
  refine tkn ?_
 refine oN ?_;refine cl1 (i:=1) fun K c=>?_
 go_simp
 (with_reducible refine cM (y.out _ eA) ?_)
 rintro e w3 ⟨r3,rfl,D,k⟩
 skip
 go_wp2_with fail
 refine kO c (cE a k) (fun a=>?_);clear c K;have X3:Ext w w3:=eA;refine cl1 (i:=4) fun K c=>?_
 go_simp
 (with_reducible refine cM (x.out _ X3 _ D.rs) ?_)
 rintro e w4 ⟨r4,r5,rfl,g,j,f⟩;obtain⟨⟨a4,m4,c4,s4,b4,n4,k4,rfl⟩,a5,m5,c5,s5,b5,n5,k5,rfl⟩:=And.intro g.form j.form
 go_wp2_with fail
 refine kO c (cE a f) (fun a=>?_);clear c K;refine sN 5 ?_
 iterate 2
  refine tkn ?_
 refine oN ?_;have X4:Ext w w4:=X3.trans f;have hO:RB w4 (w.heap.size+1) 0:=(((RB.new (IsR.zero _) sM).ext ((eR _).alloc _)).ext ((eR _).drew.trans k)).ext f;have hP:RB w4 (w.heap.size+1+1) 0:=((RB.new (IsR.zero _) sM).ext ((eR _).drew.trans k)).ext f;obtain⟨_,_,_,_,_,_,_,o0,o1,o2,L,Q,T,zo,_⟩:=hO.rd;obtain⟨_,_,_,_,_,_,_,p0,p1,p2,aa,ab,ac,zp,_⟩:=hP.rd
 have o:∀b,w.heap.size<b->∀q∈[((⟨w.heap.size,0,Y⟩:Addr),Value.slice a1 n1 m1),(⟨w.heap.size,1,Y⟩,O a2 n2 m2),(⟨w.heap.size,2,Y⟩,Z X lo),(⟨w.heap.size,3,Y⟩,Z X hi)],b≠q.1.block:=by
  intro b hb q hq;simp at hq
  rcases hq with rfl|rfl|rfl|rfl<;>(dsimp only;omega)
 refine cl1 (i:=7) fun K c=>?_
 go_simp;refine kO c (CellL.set3 a (o _ oM) _ _ _) (fun a=>?_);clear c K;refine cl1 (i:=8) fun K c=>?_
 go_simp;refine kO c (CellL.set3 a (o _ oM) _ _ _) (fun a=>?_);clear c K;refine wpAnyH_done kM ?_ _;have P:=hd9 (RB.copy2 hO hP oM g j rfl rfl);go_wp2;refine bR (v:=.tuple #[J #[O a4 m4 c4,.bool s4,O b4 n4 k4],J #[O a5 m5 c5,.bool s5,O b5 n5 k5]]) (by simp[results,Tryz.results59,go_sem,o0,o1,o2,L,Q,T,p0,p1,p2,aa,ab,ac]) rfl ?_;rw[<-HR.out];obtain⟨P1,P2,P3,P4,P5,P6⟩:=P.out;exact⟨_,_,rfl,g.keep P4,j.keep P4,P6 w X4 oM oM⟩
def freeB(ps a:LP):Bool:=if (btw ps a).lo<(btw ps a).hi then decide (0<=(leastR (btw ps a)).2.num.sign)else true
theorem zeJ(w:M)(p q:Value)(ps c:LP)(n:IsPts w p ps)(o:IsPts w q c)(z:LnOk ps)(D:LnOk c) :
  Calls Tryz.prog 131 #[p,q] w fun e w'=>e = .returned (.bool (freeB ps c))/\Ext w w':=by
 have R:0<ps.length:=List.length_pos_iff.2 z.1;have T:0<c.length:=List.length_pos_iff.2 D.1;have a:=hd9 (fun(W:M)(j:Ext w W)=>zbb W p q ps c (n.ext' j) (o.ext' j) R T);have m:=hd9 (fun(W:M)(j:Ext w W)=>zcb W p q (btw ps c) (n.ext' j) (o.ext' j) (zcf z D));obtain⟨B,r⟩:=gX (freeB ps c);rw[r];have d:=hd9 r;unfold freeB at d;obtain⟨s,Q⟩:=gX (btw ps c);rw[Q]at d a m;obtain⟨a1,m1,rfl⟩:=n.form;obtain⟨a2,m2,rfl⟩:=o.form;obtain⟨n1,L⟩:=gX ps.length;obtain⟨n2,P⟩:=gX c.length;obtain⟨K,i⟩:=gX s.lo;obtain⟨v,g⟩:=gX s.hi;unfold RetBt at a;unfold spc at a m;simp only[L,P,i,g]at d a m ⊢;clear n o z D R T r Q L P i g
 by_cases b:K<v
 ·have e:decide (K<v)=true:=by simpa using b
  rw[if_pos b]at d;rw[e]at a;obtain⟨k,x⟩:=gX ((leastR s).2.num.sign);rw[x]at d;have Hk:=hd9 x;clear x e b;go_enter Tryz.func131,Tryz.ntmps131
  go_wp2_with(first|(go_at_call 58;(with_reducible refine(a.out _ ?_).mono ?_);exact eA;rintro e w3 ⟨rfl,f⟩;obtain⟨t,u⟩:=f.cells)|(go_at_call 59;(with_reducible refine(m.out _ ?_).mono ?_);exact eA;rintro e w4 ⟨r4,r5,rfl,y,l,aa⟩;obtain⟨a4,m4,c4,s4,b4,n4,k4,rfl⟩:=y.form;obtain⟨a5,m5,c5,s5,b5,n5,k5,rfl⟩:=l.form)|(go_at_call 93;(with_reducible refine(zbz _ _ _ (l.ext ?_)).mono ?_);exact eA;rintro e w6 ⟨rfl,ab⟩;rw[Hk.out]))
  go_ret;exact⟨by rw[<-d.out];rfl,eA⟩
 ·have e:decide (K<v)=false:=by simpa using b
  rw[if_neg b]at d;rw[e]at a;clear e b;go_enter Tryz.func131,Tryz.ntmps131
  go_wp2_with(first|(go_at_call 58;(with_reducible refine(a.out _ ?_).mono ?_);exact eA;rintro e w3 ⟨rfl,f⟩;obtain⟨t,u⟩:=f.cells))
  go_ret;exact⟨by rw[<-d.out];rfl,eA⟩
end
section
open Go.RowKit Go.Shelf
attribute [local go_sem] Oper.semAt_some
def textZ(n:Int):List UInt8:=if n<0 then 45::textN n.natAbs else textN n.natAbs
def textR(q:Rat):List UInt8:=if q.den=1 then textZ q.num else textZ q.num++(47::textZ q.den)
def textV(x z:Rat):List UInt8:=40::(textR x++(44::32::(textR z++[41])))
theorem zem:∀(k n:Nat),n<k->n≠0->0<(chunksF k n).length/\2 ^ (23*((chunksF k n).length-1))<=n
 | 0,_,h,_=>by omega
 | k+1,n,h,d=>by
  rw[chunksF,if_neg d,lA,List.length_singleton];refine⟨by omega,?_⟩;rw[Nat.add_sub_cancel]
  by_cases b:n / 10000000=0
  ·rw[b,zch]
   simp;omega
  ·obtain⟨c,a⟩:=zem k (n / 10000000) oM b
   obtain⟨L,e⟩:∃L,(chunksF k (n / 10000000)).length=L+1:=⟨_,(Nat.succ_pred_eq_of_pos c).symm⟩;rw[e]at a ⊢;rw[Nat.add_sub_cancel]at a;rw[Nat.mul_add,Nat.pow_add,show (2:Nat) ^ (23*1)=8388608 from rfl];have:n / 10000000*8388608<=n:=oM
   exact nT (Nat.mul_le_mul_right _ a) this
theorem zcV:∀(k n:Nat),∀s∈chunksF k n,s.length=7
 | 0,_,s,h=>by simp[chunksF]at h
 | k+1,n,s,h=>by
  unfold chunksF at h
  split at h
  ·cases h
  ·rcases List.mem_append.1 h with h|h
   ·exact zcV k _ s h
   ·rw[List.mem_singleton.1 h];rfl
theorem zcF{n:Nat}(h:Lm limT (n:Int)):(textN n).length<=20*limT:=by
 have g:(chunksF (n+1) n).length<=2*limT:=by
  by_cases c:n=0
  ·rw[c,zch];exact Nat.zero_le _
  ·obtain⟨f,d⟩:=zem (n+1) n oM c
   have a:(n:Int)<B ^ limT:=h.2
   have e:(B:Int) ^ limT=((2 ^ (24*limT):Nat):Int):=by
    rw[Nat.pow_mul];unfold B;rw[Int.natCast_pow];rfl
   rw[e]at a;have b:n<2 ^ (24*limT):=by exact_mod_cast a
   have k:23*((chunksF (n+1) n).length-1)<24*limT:=(Nat.pow_lt_pow_iff_right (by decide:1<2)).1 (Nat.lt_of_le_of_lt d b);unfold limT at *;omega
 have i:=flat7 (zcV (n+1) n);have j:(Lib.trimLeftB (chunksF (n+1) n).flatten 48).length<=(chunksF (n+1) n).flatten.length:=List.IsSuffix.length_le (List.dropWhile_suffix _);unfold textN
 split
 ·unfold limT;simp
 ·omega
theorem zbA{n:Int}(h:Lm limT n):(textZ n).length<=21*limT:=by
 have:=zcF (n:=n.natAbs) h.abs;unfold textZ
 split
 ·rw[List.length_cons];unfold limT at *;omega
 ·omega
theorem zfT{q:Rat}(h:Rb limT q):(textR q).length<=43*limT:=by
 have a:=zbA h.1;have b:=zbA h.2;unfold textR
 split
 ·omega
 ·rw[lA,List.length_cons]
  unfold limT at *;omega
theorem za1(a b:List UInt8):(⟨a.toArray⟩:ByteArray)++(⟨b.toArray⟩:ByteArray)=⟨(a++b).toArray⟩:=by
 apply ByteArray.ext
 rw[ByteArray.data_append];simp
theorem zf1(w:M)(v:Value)(n:Int)(h:IsZ w v n)(f:Lm limT n) :
  Calls Tryz.prog 167 #[v] w fun e o=>e = .returned (.string ⟨(textZ n).toArray⟩)/\Ext w o:=by
 obtain⟨a,m,c,s,rfl⟩:=h.form;have i:=hd9 (fun(W:M)(l:Ext w W)=>ziR W (J #[O a m c]) n.natAbs (h.dig.ext l) f.abs);have j:=h.sgn;unfold textZ;clear h
 cases s with
 | true =>
  have g:n<0:=by simpa using j.symm
  rw[if_pos g];obtain⟨T,b⟩:=gX (textN n.natAbs);rw[b]at i ⊢;have d:T.length<=20*limT:=by rw[<-b];exact zcF f.abs
  unfold limT at d;clear j g b f;go_enter Tryz.func167,Tryz.ntmps167
  go_wp2_with((go_at_call 211;(with_reducible refine(i.out _ ?_).mono ?_);exact eA;rintro e p ⟨rfl,k⟩))
  go_ret;exact⟨by rw[show (⟨#[45]⟩:ByteArray)=⟨[45].toArray⟩from rfl,za1];rfl,eA⟩
 | false =>
  have g:¬n<0:=by simpa using j.symm
  rw[if_neg g];obtain⟨T,b⟩:=gX (textN n.natAbs);rw[b]at i ⊢;have d:T.length<=20*limT:=by rw[<-b];exact zcF f.abs
  unfold limT at d;clear j g b f;go_enter Tryz.func167,Tryz.ntmps167
  go_wp2_with((go_at_call 211;(with_reducible refine(i.out _ ?_).mono ?_);exact eA;rintro e p ⟨rfl,k⟩))
  go_ret;exact⟨rfl,eA⟩
end
end Go.Proofs.YtjnjpagegkcgfaaGreatDoor.Cop
