import Derived.Test.YtjnjpagegkcgfaaGreatDoorCobA12
set_option maxRecDepth 1000000
set_option maxHeartbeats 16000000
set_option linter.all false
open Go.Value renaming slice->O,int->Z,agg->M,pointer->F,bool->H
open Option renaming none->Y,some->V
open Go.IntKind renaming i64->X
open Go renaming World->I,Value->C
open Go.Obj renaming cells->J
namespace Go.Proofs.YtjnjpagegkcgfaaGreatDoor.Cop
section
open Go.RowKit Go.Shelf
attribute [local go_sem] Oper.semAt_some
abbrev Uc:Nat:=300000
def Rt(w:I)(va vb:C)(na nd:Int)(ha:xd w va na)(hb:xd w vb nd)(bm:Lm Uc na)(bU:Lm Uc nd)(hd:nd≠0):Calls Tryz.prog 142 #[va,vb] w fun e w'=>∃r1 r2,e=.returned (.tuple #[r1,r2])/\xd w' r1 (na/nd)/\xd w' r2 (na%nd)/\Ba w w':=by
 obtain⟨s,a,m,c,rfl,hs⟩:=ha.j;obtain⟨s',a',m',c',rfl,bp⟩:=hb.j;obtain⟨xs,hl,hi,hc,hv⟩:=ha.open;have hm:=Mo bm hc hv;rw[hl]at hm;unfold Uc at hm;obtain⟨p,hp⟩:=gX (s'*s');have aI:=hb.abs;rw[hp]at aI;obtain⟨D,hD⟩:=gX ((nd.natAbs:Int));rw[hD]at aI;have bF:0<D:=oM;have cS:0<=p/\p<=1:=by rcases Sh nd with ⟨e,_⟩|⟨e,_⟩|⟨e,_⟩<;>(rw[<-hp,bp,e];decide)
 obtain⟨dG,dH⟩:=cS;have HD:=Aa hD;have Hp:=Aa hp;have Hs:=Aa hs;have bB:=Aa bp;have Hl:=Aa hl;have Hv:=Aa hv;have cp:=Aa bm;have aK:Sa (Lm Uc D):=Aa (by rw[<-hD];exact bU.abs);have Hd:=Aa hd;clear hs bp hl hv hp hD bm bU hd;obtain⟨W0,S⟩:=gX ((((w.alloc (J #[Z X s,O a m c] 66)).alloc (J #[Z X s',O a' m' c'] 66)).alloc (J #[Z X 0,O Y 0 0] 66)).alloc (J #[Z X 0,O Y 0 0] 66));have z0:w.heap.size+1+1+1+1=W0.heap.size:=by rw[<-S];simp
 have z1:w.heap.size<W0.heap.size:=oM;have z2:w.heap.size+1<W0.heap.size:=oM;have z3:w.heap.size+1+1<W0.heap.size:=oM;have z4:w.heap.size+1+1+1<W0.heap.size:=oM;have p0:W0.cell? ⟨w.heap.size,0,Y⟩=V (Z X s):=by rw[<-S];clear S;go_simp
 have p1:W0.cell? ⟨w.heap.size,1,Y⟩=V (O a m c):=by rw[<-S];clear S;go_simp
 have q0:W0.cell? ⟨w.heap.size+1,0,Y⟩=V (Z X s'):=by rw[<-S];clear S;go_simp
 have q1:W0.cell? ⟨w.heap.size+1,1,Y⟩=V (O a' m' c'):=by rw[<-S];clear S;go_simp
 have cz:Sa (W0.heap[w.heap.size+1+1]?=V (J #[Z X 0,O Y 0 0] 66 (0,0))):=by rw[<-S];exact Aa (by rw[Below.heap_alloc _ _ _ sM];exact Ec _ _ _ sM)
 have cB:Sa (W0.heap[w.heap.size+1+1+1]?=V (J #[Z X 0,O Y 0 0] 66 (0,0))):=by rw[<-S];exact Aa (Ec _ _ _ sM)
 have aG:Sa (Ba w W0):=by rw[<-S];exact Aa eA
 go_in;go_upto_region 3 with (first|(at_make;refine Ku (n:=m) Ok Tryz.underlying64 rfl _ _ rfl _ rfl rfl rfl oM ?_;(try rw[S]);intro w1 aE ad b9;(try simp only[z0]at aE);(have e0:=ad.d p0);(have e1:=ad.d p1);(have e2:=ad.d q0);(have e3:=ad.d q1))|(go_at_call 190;(with_reducible refine(My _ s' a' m' c' nd ?_).mono ?_);(refine hb.ext ?_;exact aG.o.trans ad);rw[Hp.o];rintro e w2 ⟨rfl,aB⟩));clear S;have an:Ba W0 w2:=ad.trans aB;have zg:W0.heap.size<w2.heap.size:=Nat.lt_of_lt_of_le b9 aB.size;have y1:w.heap.size<w2.heap.size:=oM;have y2:w.heap.size+1<w2.heap.size:=oM;replace e0:=aB.d e0;replace e1:=aB.d e1;replace e2:=aB.d e2;replace e3:=aB.d e3;go_wp2;go_loopw [9] (MQ W0 m xs D w2.heap.size (w2.heap.size+1) #[Z X p,O a' m' c']) (fun t9 _=>(intOf t9+1).toNat)
 case atStart =>
  have k1:((w2.alloc (J #[Z X 0,O Y 0 0] 66)).alloc (J #[Z X p,O a' m' c'] 66)).heap[w2.heap.size]?=V (J #[Z X 0,O Y 0 0] 66 (0,0)):=Ch ..;refine⟨(m:Int)-1,List.replicate m 0,0,rfl,by omega,by omega,by simp,?_,?_,⟨0,Y,0,0,k1,Jf.nil _ _⟩,Ec _ _ _ sM,?_,by omega,bF,(an.alloc _).alloc _⟩
  ·exact((aE.keep aB.keep).alloc _).alloc _
  ·intro d hd;rw[(List.mem_replicate.1 hd).2];unfold C4;omega
  ·rw[List.drop_of_length_le (by rw[Hl.o];omega),List.drop_of_length_le sM];simp
 case round =>
  obtain⟨g,bT⟩:=gX w2.heap.size;rw[bT]at hrel ⊢;have dR:W0.heap.size<g:=oM;clear aE e0 e1 e2 e3 ad aB an b9 y1 y2 zg bT;obtain⟨j,qs,R,rfl,Sq⟩:=hrel;have j0:=Sq.j0;have j1:=Sq.j1;have ai:=Sq.ext;have e0:=ai.d p0;have e1:=ai.d p1;have d0:=Ca Sq.size (i:=0) (u:=Z X p) rfl;have d1:=Ca Sq.size (i:=1) (u:=O a' m' c') rfl;have zd:=Gb Sq.size;have r:=Aa Sq;by_cases hj:0<=j
  ·obtain⟨k,rfl⟩:=Int.eq_ofNat_of_zero_le hj;obtain⟨sr,ar,mr,cr,ac,aD⟩:=Sq.rest;have t0:=Ca ac (i:=0) (u:=Z X sr) rfl;have t1:=Ca ac (i:=1) (u:=O ar mr cr) rfl;have zt:=Gb ac;have cg:=Ua ac 0;have Wd:=Ua ac 1;obtain⟨rs,rl,ro,rc,rv⟩:=aD.open;have Rl:=Aa rl;have aZ:=Sq.r0;have bj:=Sq.r1;have bL:(R.natAbs:Int)=R:=oM;rw[bL]at rv;have Rv:=Aa rv;have dI:rs.length<=2*300000:=Mo (k:=Uc) (n:=R) (by have:=aK.o;unfold Lm at *;omega) rc (by rw[bL];exact rv);obtain⟨b,o,rfl,dE,ad⟩:=(hi.ext (aG.o.trans ai)).open (by rw[Hl.o];omega);obtain⟨x,a7⟩:∃x,xs[k]?=V x:=⟨_,gE (by rw[Hl.o];omega)⟩;obtain⟨q,bY⟩:∃q,qs[k]?=V q:=⟨_,gE (by rw[Sq.ql];omega)⟩;have cK:=ad k x a7;have z:=hc.1 x (lM a7);unfold C4 at z;have cC:=Aa a7;have dr:=Aa bY;have dt:=Aa ad;have k0:(0:Int)<=(k:Int):=oM;have k1:(k:Int)<(m:Int):=oM;have b0:Pc 3 wr (O ar mr cr) rs:=ro.ints;have HN:Sa (0<=x+10000*R):=Aa oM;clear rl rv Sq ad a7 bY;go_wp2;refine Nh (fun i=>decide (9<i)) (Da [(⟨w.heap.size,1,Y⟩,O (V ⟨b,o,Y⟩) m c),(⟨b,o+k,Y⟩,Z X x),(⟨g,1,Y⟩,O ar mr cr),(⟨g,0,Y⟩,Z X sr)]) kM ?_ (fun f=>?_)
   ·exact cA
   refine sN 0 ?_
   iterate 5 refine Yh ?_
   refine oN ?_;refine sN 6 ?_
   iterate 2 refine Yh ?_
   refine oN ?_;have bG:=f;refine Jc (i:=5) fun K t=>?_;go_simp;refine kO t (fun _=>cE f ((eR wr.drew).alloc _)) (fun f=>?_);clear t K;have f:=f rfl;refine Jc (i:=8) fun K t=>?_;refine ZK Ok Tryz.underlying64 rfl _ _ rfl rfl (tI wr.drew 3 x) rfl (b0.ext ((eR wr).drew.alloc _)) (by simp;omega) sM ?_;intro v5 w5 am aC;have X5:Ba wr w5:=((eR wr).drew.alloc (J #[Z X x] 3)).y aC (nE _);refine kO t (fun _=>cE bG (((eR wr.drew).alloc (J #[Z X x] 3)).y aC (nE _))) (fun f=>?_);clear t K;replace f:=f rfl;obtain⟨a5,c5,rfl⟩:=am.form;simp only[List.singleton_append,List.length_cons]at am ⊢;have bP:dv C4 (x::rs)=x+10000*R:=by
    rw[Il,Rv.o];rfl
   have bz:=Aa bP;clear bP;refine Jc (i:=9) fun K t=>?_;go_simp;(with_reducible refine cM (Fv _ 1 _ (x::rs) (x+10000*R) am.ints (by simp;omega) (fun y hy=>?_) (by rw[bz.o];exact HN.o) (by rw[bz.o];omega) (fun _=>.inl rfl)) ?_)
   ·rcases List.mem_cons.1 hy with rfl|hy
    ·omega
    ·have:=rc.1 y hy;unfold C4 at this;omega
   rintro e w6 ⟨r6,rfl,aS,bq⟩;obtain⟨s6,a6,m6,c6,rfl,ca⟩:=aS.j;have ds:=Aa ca;clear ca;go_wp2;refine kO t (fun _=>cE f bq) (fun f=>?_);clear t K;replace f:=f rfl;have X6:Ba wr w6:=X5.trans bq;have dn:g<w6.heap.size:=X6.lt zt;obtain⟨cH,cN⟩:=X6.cells;refine Jc (i:=10) fun K t=>?_;go_simp;refine kO t (fun h=>nomatch h) (fun f=>?_);clear t K;refine Kb kM ?_ _;obtain⟨Rn,bk⟩:=gX (x+10000*R);rw[bk]at aS;have cx:=Aa bk;have bM:0<=Rn:=oM;have bN:Rn<D*10000:=oM;have aW:NB w6 g R:=(NB.ext ⟨sr,ar,mr,cr,ac,aD.isN⟩ X6);obtain⟨wi,aA⟩:=gX ((w6.setCell ⟨g,0,Y⟩ (Z X s6)).setCell ⟨g,1,Y⟩ (O a6 m6 c6));have i1:OB wi (W0.heap.size+1) g Rn:=by
    rw[<-aA];exact OB.put aW (aS.mono (by have:=ai.size;have:=X5.size;omega))
   have i2:wi.heap[g+1]?=V (J #[Z X p,O a' m' c'] 66 (0,0)):=by
    rw[<-aA,bS _ _ _ _ sM,bS _ _ _ _ sM];exact X6.e r.o.size
   have i3:Mb 3 wi W0.heap.size (O (V ⟨W0.heap.size,0,Y⟩) m m) qs:=by
    rw[<-aA];exact((r.o.row.keep X6.keep).setOther (p:=⟨g,0,Y⟩) (by simp[Value.ownBlock];omega) _).setOther (p:=⟨g,1,Y⟩) (by simp[Value.ownBlock];omega) _
   have i4:Ba W0 wi:=by
    rw[<-aA];exact((ai.trans X6).set (p:=⟨g,0,Y⟩) dO _).set (p:=⟨g,1,Y⟩) dO _
   have i5:xd wi (M #[Z X s6,O a6 m6 c6]) Rn:=by rw[<-aA];exact aS.isN.keep (((Ia.refl _ w6).x aW.not _).x (aW.not.set _ _) _)
   have i6:wi.heap[g]?=V (J #[Z X s6,O a6 m6 c6] 66 (0,0)):=by
    obtain⟨u1,u2,u3,u4,u5,u6⟩:=aW;rw[<-aA];exact Oj u5 _ _
   have bx:=Aa r.o.val;have bw:=Aa r.o.qd;have aM:=Aa r.o.ql;rw[aA];clear aA aS bq cH cN f bG X5 X6 aW am aC aD ac b0 ro rc cK r e0 e1 d0 d1 t0 t1 zd zt dn bk;have m0:=Ca i6 (i:=0) (u:=Z X s6) rfl;have m1:=Ca i6 (i:=1) (u:=O a6 m6 c6) rfl;have m2:=Ca i2 (i:=0) (u:=Z X p) rfl;have m3:=Ca i2 (i:=1) (u:=O a' m' c') rfl;have zi:=Gb i2;have di:g<wi.heap.size:=oM;obtain⟨wo,rfl⟩:∃wo:I,wo=wr:=⟨_,rfl⟩;go_wp2;go_loopw [10,11] (OQ wi D Rn) (fun da db _=>(intOf db-intOf da).toNat)
   case atStart=>exact⟨0,10000,rfl,rfl,by omega,by omega,by omega,by omega,bN,eR _⟩
   case round =>
    obtain⟨lo,aH,rfl,rfl,l0,l1,l2,l3,l4,Xi⟩:=hrel;have M0:=Xi.d m0;have M1:=Xi.d m1;have M2:=Xi.d m2;have M3:=Xi.d m3;have ZW:g+1<wr.heap.size:=Xi.lt zi;have bh:g<wr.heap.size:=oM;have bg:Ba w wr:=aG.o.trans (i4.trans Xi);have aL:Sa (Lm Bc D):=Aa (aK.o.mono dM);by_cases dF:1<aH-lo
    ·obtain⟨md,cP⟩:=gX (Int.tdiv (lo+aH) 2);(have bV:md=(lo+aH)/2:=by rw[<-cP,Int.tdiv_eq_ediv_of_nonneg oM]);have cY:lo<md:=oM;have cZ:md<aH:=oM;have br:0<=md:=oM;have cf:md<=10000:=oM;obtain⟨P,hP⟩:=gX (D*md);(have bI:0<=P:=by rw[<-hP];exact Int.mul_nonneg oM br);obtain⟨T,hT⟩:=gX (((P.natAbs:Int)-(Rn.natAbs:Int)).sign);have a0:T<=0 ↔ P<=Rn:=by
      rw[<-hT];rcases Sh ((P.natAbs:Int)-(Rn.natAbs:Int))with ⟨e,_⟩|⟨e,_⟩|⟨e,_⟩<;>omega
     have HT:=Aa hT;have HP:=Aa hP;have a4:=i5.ext Xi;clear bV hT hP;by_cases bn:P<=Rn
     ·have cF:T<=0:=a0.2 bn;clear a0;go_wp2;go_region_held3 (fun W=>W.cell? ⟨g,0,Y⟩=V (Z X s6)/\W.cell? ⟨g,1,Y⟩=V (O a6 m6 c6)/\W.cell? ⟨g+1,0,Y⟩=V (Z X p)/\W.cell? ⟨g+1,1,Y⟩=V (O a' m' c')) ((repeat' (with_reducible refine And.intro ?_ ?_))<;>(first|(go_simp;done)|(refine ad.d ?_;go_simp;done))) (first|(go_at_call 192;(with_reducible refine(Rw _ (M #[Z X p,O a' m' c']) D md ?_ aL.o br cf).mono ?_);(refine aI.ext ?_;exact bg.drew);rw[HP.o];rintro e w8 ⟨r8,rfl,ae,l⟩;obtain⟨s8,a8,m8,c8,rfl,-⟩:=ae.j;obtain⟨cI,cO⟩:=oo l;(have z8:g<w8.heap.size:=l.lt bh);(have de:g+1<w8.heap.size:=l.lt ZW))|(go_at_call 191;(with_reducible refine(Ax _ (M #[Z X s8,O a8 m8 c8]) (M #[Z X s6,O a6 m6 c6]) P Rn ae ?_).mono ?_);(refine a4.ext ?_;exact(eR wr).drew.trans l);rw[HT.o];rintro e w9 ⟨rfl,af⟩;obtain⟨al,a1⟩:=oo af))
      all_goals go_wp2
      go_roundw
      case rel=>exact⟨md,aH,rfl,rfl,by omega,cZ,l2,by rw[HP.o];exact bn,l4,Xi.trans ((eR wr).drew.trans (l.trans af))⟩
      case measure=>simp[intOf];omega
     ·have cF:¬T<=0:=fun h=>bn (a0.1 h);clear a0;go_wp2;go_region_held3 (fun W=>W.cell? ⟨g,0,Y⟩=V (Z X s6)/\W.cell? ⟨g,1,Y⟩=V (O a6 m6 c6)/\W.cell? ⟨g+1,0,Y⟩=V (Z X p)/\W.cell? ⟨g+1,1,Y⟩=V (O a' m' c')) ((repeat' (with_reducible refine And.intro ?_ ?_))<;>(first|(go_simp;done)|(refine ad.d ?_;go_simp;done))) (first|(go_at_call 192;(with_reducible refine(Rw _ (M #[Z X p,O a' m' c']) D md ?_ aL.o br cf).mono ?_);(refine aI.ext ?_;exact bg.drew);rw[HP.o];rintro e w8 ⟨r8,rfl,ae,l⟩;obtain⟨s8,a8,m8,c8,rfl,-⟩:=ae.j;obtain⟨cI,cO⟩:=oo l;(have z8:g<w8.heap.size:=l.lt bh);(have de:g+1<w8.heap.size:=l.lt ZW))|(go_at_call 191;(with_reducible refine(Ax _ (M #[Z X s8,O a8 m8 c8]) (M #[Z X s6,O a6 m6 c6]) P Rn ae ?_).mono ?_);(refine a4.ext ?_;exact(eR wr).drew.trans l);rw[HT.o];rintro e w9 ⟨rfl,af⟩;obtain⟨al,a1⟩:=oo af))
      all_goals go_wp2
      go_roundw
      case rel=>exact⟨lo,md,rfl,rfl,l0,cY,by omega,l3,by rw[HP.o];omega,Xi.trans ((eR wr).drew.trans (l.trans af))⟩
      case measure=>simp[intOf];omega
    ·obtain rfl:aH=lo+1:=oM;obtain⟨P,hP⟩:=gX (D*lo);(have bI:0<=P:=by rw[<-hP];exact Int.mul_nonneg oM l0);have dC:P<=Rn:=oM;(have dD:Rn<P+D:=by rw[Int.mul_add,hP]at l4;omega);have HP:=Aa hP;have co:Sa (Lm Bc Rn):=Aa ((By aK.o oM bM oM).mono dM);have cn:Sa (Lm Bc P):=Aa ((By aK.o oM bI oM).mono dM);have cW:lo<=10000:=oM;have j3:Mb 3 wr W0.heap.size (O (V ⟨W0.heap.size,0,Y⟩) m m) qs:=i3.keep Xi.keep;have j4:OB wr (W0.heap.size+1) g Rn:=i1.ext Xi;have j2:=Xi.e i2;have jx:=i4.trans Xi;have cU:wr.frozen? ⟨W0.heap.size,k,Y⟩=false:=j3.frozen k;obtain⟨q,hq⟩:∃q,qs[k]?=V q:=⟨_,gE (by rw[aM.o];omega)⟩;have cV:=j3.cell hq;have a4:=i5.ext Xi;have cg:=Ua (Xi.e i6) 0;have Wd:=Ua (Xi.e i6) 1;have bW:¬g=W0.heap.size:=oM;have bX:¬g+1=W0.heap.size:=oM;have dq:W0.heap.size<wr.heap.size:=oM;clear hP hq;go_wp2;obtain⟨wq,aF⟩:=gX (wr.setCell ⟨W0.heap.size,k,Y⟩ (Z X lo));(have b1:OB wq (W0.heap.size+1) g Rn:=by rw[<-aF];exact j4.setRow oM oM _);(have b6:wq.heap[g]?=V (J #[Z X s6,O a6 m6 c6] 66 (0,0)):=by rw[<-aF,bS _ _ _ _ (by simpa using bW)];exact Xi.e i6);(have b2:wq.heap[g+1]?=V (J #[Z X p,O a' m' c'] 66 (0,0)):=by rw[<-aF,bS _ _ _ _ (by simpa using bX)];exact j2);(have b3:Mb 3 wq W0.heap.size (O (V ⟨W0.heap.size,0,Y⟩) m m) (qs.set k lo):=by rw[<-aF];exact j3.stored k lo);(have b4:Ba W0 wq:=by rw[<-aF];exact jx.set (p:=⟨W0.heap.size,k,Y⟩) (nE _) _);have b5:xd wq (M #[Z X s6,O a6 m6 c6]) Rn:=by
      obtain⟨u1,u2,u3,u4,u5,u6⟩:=b1;rw[b6]at u5;cases u5;exact u6.isN
     have b7:xd wq (M #[Z X p,O a' m' c']) D:=aI.ext (aG.o.trans b4);have o0:=Ca b6 (i:=0) (u:=Z X s6) rfl;have o1:=Ca b6 (i:=1) (u:=O a6 m6 c6) rfl;have o2:=Ca b2 (i:=0) (u:=Z X p) rfl;have o3:=Ca b2 (i:=1) (u:=O a' m' c') rfl;have dL:=Ua b6 0;have dN:=Ua b6 1;have zq:=Gb b2;have dl:g<wq.heap.size:=oM;rw[aF];clear aF M0 M1 M2 M3 ZW bh bg cU cV cg Wd j4 j2 j3 jx m0 m1 m2 m3 i1 i2 i3 i4 i5 i6 a4 zi di Xi;refine Nh (fun i=>decide (4<i)) (Da [(⟨g,0,Y⟩,Z X s6),(⟨g,1,Y⟩,O a6 m6 c6),(⟨g+1,0,Y⟩,Z X p),(⟨g+1,1,Y⟩,O a' m' c')]) kM ?_ (fun f=>?_)
     ·exact cA
     refine sN 0 ?_
     (iterate 3 refine Yh ?_);refine oN ?_;refine Jc (i:=3) fun K t=>?_;go_simp;(with_reducible refine cM (Rw _ (M #[Z X p,O a' m' c']) D lo (b7.ext (eR wq).drew) aL.o l0 cW) ?_);rintro e w8 ⟨r8,rfl,ae,l⟩;rw[HP.o]at ae;obtain⟨s8,a8,m8,c8,rfl,-⟩:=ae.j;go_wp2;refine kO t (fun _=>cE f l) (fun f=>?_);clear t K;replace f:=f rfl;refine Jc (i:=4) fun K t=>?_;go_simp;(with_reducible refine cM (Iy _ (M #[Z X s6,O a6 m6 c6]) (M #[Z X s8,O a8 m8 c8]) Rn P (b5.ext ((eR wq).drew.trans l)) ae co.o cn.o) ?_);rintro e w9 ⟨r9,rfl,aT,af⟩;obtain⟨s9,a9,m9,c9,rfl,-⟩:=aT.j;go_wp2;refine kO t (fun _=>cE f af) (fun f=>?_);clear t K;replace f:=f rfl;have X9:Ba wq w9:=(eR wq).drew.trans (l.trans af);have dm:g<w9.heap.size:=X9.lt dl;have n9:NB w9 g Rn:=b1.nb.ext X9;obtain⟨al,a1⟩:=X9.cells;refine Jc (i:=5) fun K t=>?_;go_simp;refine kO t (fun h=>nomatch h) (fun f=>?_);clear t K;refine Kb kM ?_ _;go_wp2;go_roundw
     case rel =>
      refine⟨(k:Int)-1,qs.set k lo,Rn-P,rfl,by omega,by omega,by simp[aM.o],?_,bw.o.set oM (by unfold C4;omega) _,OB.put n9 (aT.mono ?_),?_,?_,by omega,by omega,?_⟩
      ·exact((b3.keep X9.keep).setOther (p:=⟨g,0,Y⟩) (by simp[Value.ownBlock];omega) _).setOther (p:=⟨g,1,Y⟩) (by simp[Value.ownBlock];omega) _
      ·have:=b4.size;have:=l.size;simp only[Cc]at this;omega
      ·rw[bS _ _ _ _ sM,bS _ _ _ _ sM];exact X9.e b2
      ·have e1:(qs.set k lo)[k]?=V lo:=List.getElem?_set_self (by rw[aM.o];omega);have e2:(qs.set k lo).drop (k+1)=qs.drop (k+1):=List.drop_set_of_lt oM;have h9:=bx.o;rw[show ((k:Int)+1).toNat=k+1 by omega,<-e2]at h9;rw[show ((k:Int)-1+1).toNat=k by omega,sK cC.o e1 h9,<-HP.o,<-cx.o,Int.mul_comm lo D];rfl
      ·exact((b4.trans X9).set (p:=⟨g,0,Y⟩) dO _).set (p:=⟨g,1,Y⟩) dO _
     case measure=>simp[intOf]
  ·obtain rfl:j = -1:=oM;clear e0 e1 d0 d1 zd ai j0 j1 hj;obtain⟨Q,hQ⟩:=gX (dv C4 qs);have ay:=r.o.val;simp only[show ((-1:Int)+1).toNat=0 from rfl,List.drop_zero]at ay;rw[Hv.o,hQ]at ay;have aZ:=r.o.r0;have bj:=r.o.r1;have bJ:0<=Q:=by rw[<-hQ];exact(Gi nk r.o.qd).1
   have aP:Q<=(na.natAbs:Int):=rH ay bF aZ bJ;have bK:Q≠0->s=1\/s = -1:=fun h9=>by
    rw[Hs.o];exact Xs (fun h8=>h9 (by rw[h8]at aP;simp at aP;omega))
   obtain⟨N1,bi⟩:=gX (s*Q);have be:N1=na.sign*Q:=by rw[<-bi,Hs.o]
   have cc:s = -1\/s=0\/s=1:=by rcases Sh na with ⟨e,_⟩|⟨e,_⟩|⟨e,_⟩<;>rw[Hs.o,e]<;>decide
   have bH:(N1.natAbs:Int)<=na.natAbs:=by rcases cc with h|h|h<;>subst h<;>omega
   have cm:Sa (Lm Bc N1):=Aa (Lm.mono (j:=Uc) (by have:=cp.o;unfold Lm at *;omega) dM);have bv:Sa (Lm Bc D):=Aa (aK.o.mono dM);have cq:Sa (Lm Bc R):=Aa (by have:=bv.o;unfold Lm at *;omega);have bu:Sa (Lm Bc 1):=Aa (Jp dM);have bl:(na.natAbs:Int)=Q*(nd.natAbs:Int)+R:=by rw[HD.o];exact ay
   have aw:=CA (N:=N1) Hd.o bl aZ (by rw[HD.o];exact bj);have aQ:=CA (N:=N1-1) Hd.o bl aZ (by rw[HD.o];exact bj);have ck:=Aa aw.1;have cl:=Aa aQ.2;have cw:=Aa bK;have ct:=Aa bi;have bc:=Aa be;have HQ:=Aa hQ;clear ay hQ bK bi be aP bl aw aQ bH cc;have ai:=r.o.ext;have e0:=ai.d p0;have e1:=ai.d p1;have d0:=Ca r.o.size (i:=0) (u:=Z X p) rfl;have d1:=Ca r.o.size (i:=1) (u:=O a' m' c') rfl;obtain⟨sr,ar,mr,cr,ac,aD⟩:=r.o.rest;have t0:=Ca ac (i:=0) (u:=Z X sr) rfl;have t1:=Ca ac (i:=1) (u:=O ar mr cr) rfl;have zd:=Gb r.o.size;have dh:g<wr.heap.size:=oM;have dg:w.heap.size<wr.heap.size:=oM;have cd:sr=R.sign:=aD.isN.sgn;have bC:=Aa cd;have cy:Sa (∀x∈qs,-100000000000000<=x/\x<=100000000000000):=Aa (fun x hx=>by have:=r.o.qd x hx;unfold C4 at this;omega);clear cd;go_upto_region 16 with (go_at_call 152;(with_reducible refine(Br _ s _ qs N1 r.o.row.ints (by rw[r.o.ql];omega) cy.o (by rw[HQ.o];exact bJ) (by rw[HQ.o];exact ct.o.symm) (by rw[HQ.o];exact cw.o)).mono ?_);rintro e w3 ⟨r3,rfl,bo,an⟩;obtain⟨s3,a3,m3,c3,rfl,-⟩:=bo.j;obtain⟨cG,cL⟩:=an.cells;(have u7:g+1<w3.heap.size:=an.lt zd);(have dd:g<w3.heap.size:=an.lt dh);(have u0:w.heap.size<w3.heap.size:=an.lt dg));obtain⟨ag,az⟩:=gX (w3.alloc (J #[Z X s3,O a3 m3 c3] 66));have ah:Ba wr ag:=by rw[<-az];exact an.alloc _
   have ao:ag.heap[w3.heap.size]?=V (J #[Z X s3,O a3 m3 c3] 66 (0,0)):=by rw[<-az];exact aN _ _
   have aR:xd ag (M #[Z X s3,O a3 m3 c3]) N1:=by rw[<-az];exact bo.ext ((eR _).alloc _)
   have ak:NB ag w3.heap.size N1:=⟨_,_,_,_,ao,aR⟩;have aX:NB ag g R:=NB.ext ⟨sr,ar,mr,cr,ac,aD.isN⟩ ah;have bZ:=ah.e ac;have ba:=ah.e r.o.size;rw[az];obtain⟨aa,bf⟩:=gX w3.heap.size;rw[bf]at u7 dd u0 ao ak ⊢;clear az cG cL an bo bf aD ac;replace e0:=ah.d e0;replace e1:=ah.d e1;replace d0:=ah.d d0;replace d1:=ah.d d1;replace t0:=ah.d t0;replace t1:=ah.d t1;have X0:Ba W0 ag:=ai.trans ah;have cj:aa<ag.heap.size:=Gb ao;obtain⟨bb,bO⟩:=gX (decide (na<0/\R≠0));have aO:=Aa bO;have y0:w.heap.size<ag.heap.size:=oM;have y7:g<ag.heap.size:=oM;have y8:g+1<ag.heap.size:=oM;clear bO;go_cut [75] (fun dc W=>dc=H bb/\W=ag)
   case first =>
    by_cases b8:s<0
    ·have hn:na<0:=by
      have:=Hs.o;rcases Sh na with ⟨e,h⟩|⟨e,h⟩|⟨e,h⟩<;>omega
     by_cases ax:sr=0
     ·have hR:R=0:=by
       have:=bC.o;rcases Sh R with ⟨e,h⟩|⟨e,h⟩|⟨e,h⟩<;>omega
      (have e:bb=false:=by rw[<-aO.o];simp[hR]);(have ce:(sr != 0)=false:=by simp[ax]);clear ax;go_wp2;go_meet;exact⟨by rw[e],rfl⟩
     ·have hR:R≠0:=by
       intro h;have:=bC.o;rw[h]at this;exact ax (by rw[this];rfl)
      (have e:bb=true:=by rw[<-aO.o];simp[hR,hn]);(have ce:(sr != 0)=true:=by simpa using ax);clear ax;go_wp2;go_meet;exact⟨by rw[e],rfl⟩
    ·have hn:¬na<0:=by
      have:=Hs.o;rcases Sh na with ⟨e,h⟩|⟨e,h⟩|⟨e,h⟩<;>omega
     (have e:bb=false:=by rw[<-aO.o];simp[hn]);go_wp2;go_meet;exact⟨by rw[e],rfl⟩
   case rest =>
    obtain⟨rfl,rfl⟩:=hcut;go_upto_if 75 with fail;go_cut [13] (oF W0 g (g+1) #[Z X p,O a' m' c'] (if bb then N1-1 else N1) (if bb then D-R else R))
    case first =>
     cases bb with
     |false=>
      go_wp2;go_meet;exact⟨aa,rfl,by omega,by omega,ak,aX,ba,X0⟩
     |true=>
      have f3:=Ca ao (i:=0) (u:=Z X s3) rfl;have f4:=Ca ao (i:=1) (u:=O a3 m3 c3) rfl;have f5:=Ua ao 0;have f6:=Ua ao 1;go_wp2;refine Nh (fun i=>decide (2<i)) (Da [(⟨aa,0,Y⟩,Z X s3),(⟨aa,1,Y⟩,O a3 m3 c3)]) kM ?_ (fun f=>?_)
      ·exact cA
      refine Sf (i:=0) ?_;refine Jc (i:=1) fun K t=>?_;go_simp;(with_reducible refine cM (Pn _ 1 dM dM) ?_);rintro e w8 ⟨r8,rfl,ae,l⟩;obtain⟨s8,a8,m8,c8,rfl,-⟩:=ae.j;go_wp2;refine kO t (fun _=>cE f l) (fun f=>?_);clear t K;replace f:=f rfl;refine Jc (i:=2) fun K t=>?_;go_simp;(with_reducible refine cM (Pv _ (M #[Z X s3,O a3 m3 c3]) (M #[Z X s8,O a8 m8 c8]) N1 1 (aR.ext ((eR wc).drew.trans l)) ae cm.o bu.o) ?_);rintro e w9 ⟨r9,rfl,aT,af⟩;obtain⟨s9,a9,m9,c9,rfl,-⟩:=aT.j;go_wp2;refine kO t (fun _=>cE f af) (fun f=>?_);clear t K;replace f:=f rfl;have X9:Ba wc w9:=(eR wc).drew.trans (l.trans af);have dm:aa<w9.heap.size:=X9.lt cj;obtain⟨al,a1⟩:=X9.cells;refine Jc (i:=3) fun K t=>?_;go_simp;refine kO t (fun h=>nomatch h) (fun f=>?_);clear t K;refine Kb kM ?_ _;obtain⟨wa,aJ⟩:=gX ((w9.setCell ⟨aa,0,Y⟩ (Z X s9)).setCell ⟨aa,1,Y⟩ (O a9 m9 c9));have n9:=ak.ext X9;(have cD:NB wa aa (N1-1):=by rw[<-aJ];exact n9.put aT);have c7:NB wa g R:=by
       rw[<-aJ];exact((aX.ext X9).other (p:=⟨aa,0,Y⟩) dO n9.not _).other (p:=⟨aa,1,Y⟩) dO (n9.not.set _ _) _
      have aY:wa.heap[g+1]?=V (J #[Z X p,O a' m' c'] 66 (0,0)):=by
       rw[<-aJ,bS _ _ _ _ dO,bS _ _ _ _ dO];exact X9.e ba
      have cX:Ba W0 wa:=by
       rw[<-aJ];exact((X0.trans X9).set (p:=⟨aa,0,Y⟩) dO _).set (p:=⟨aa,1,Y⟩) dO _
      rw[aJ];clear aJ f al a1 f3 f4 f5 f6;obtain⟨sv,av,mv,cv,-,v0,v1,ch,ci,vz,aV⟩:=c7.rd;have d2:=Ca aY (i:=0) (u:=Z X p) rfl;have d3:=Ca aY (i:=1) (u:=O a' m' c') rfl;have zz:=Gb aY;have cR:xd wa (M #[Z X p,O a' m' c']) D:=aI.ext (aG.o.trans cX);go_wp2_with(go_at_call 151;(with_reducible refine(Pv _ (M #[Z X p,O a' m' c']) (M #[Z X sv,O av mv cv]) D R cR aV bv.o cq.o).mono ?_);rintro e wb ⟨rb,rfl,aU,z⟩;obtain⟨sb,ab,mb,cb,rfl,-⟩:=aU.j;obtain⟨cJ,a2⟩:=z.cells);go_meet;refine⟨aa,rfl,by omega,by omega,?_,(c7.ext z).put aU,?_,?_⟩
      ·exact((cD.ext z).other (p:=⟨g,0,Y⟩) dO (c7.ext z).not _).other (p:=⟨g,1,Y⟩) dO ((c7.ext z).not.set _ _) _
      ·rw[bS _ _ _ _ sM,bS _ _ _ _ sM];exact z.e aY
      ·exact((cX.trans z).set (p:=⟨g,0,Y⟩) dO _).set (p:=⟨g,1,Y⟩) dO _
    case rest =>
     obtain⟨N2,ap⟩:=gX ((if bb=true then N1-1 else N1));obtain⟨R2,aq⟩:=gX ((if bb=true then D-R else R));rw[ap,aq]at hcut;have aw:(if nd<0 then -N2 else N2)=na/nd/\R2=na%nd:=by
      by_cases al:na<0/\R≠0
      ·(have e:bb=true:=by rw[<-aO.o];simpa using al);rw[e]at ap aq;simp only[if_true]at ap aq;have:=cl.o al (by rw[bc.o]);rw[HD.o,ap,aq]at this;exact this
      ·(have e:bb=false:=by rw[<-aO.o];simpa using al);rw[e]at ap aq;simp only[Bool.false_eq_true,if_false]at ap aq;have:=ck.o al bc.o;rw[ap,aq]at this;exact this
     have bA:=Aa aw;clear aw ap aq ak aX ba X0 t0 t1 d0 d1 e0 e1 ao aR bZ y0 y7 y8 cj;obtain⟨ga,rfl,bD,bE,aj,bs,bt,Xa⟩:=hcut;have e2:=Xa.d q0;have dp:w.heap.size+1<wc.heap.size:=Xa.lt z2;go_upto_if 84 with fail;go_cut [13] (oF W0 g (g+1) #[Z X p,O a' m' c'] (if nd<0 then -N2 else N2) R2)
     case first =>
      by_cases cQ:nd<0
      ·have b8:s'<0:=by
        have:=bB.o;rcases Sh nd with ⟨e,h⟩|⟨e,h⟩|⟨e,h⟩<;>omega
       obtain⟨sv,av,mv,cv,-,v0,v1,ch,ci,vz,aV⟩:=aj.rd;go_wp2_with(go_at_call 193;(with_reducible refine(lr _ (M #[Z X sv,O av mv cv]) N2 aV).mono ?_);rintro e wb ⟨rb,rfl,aU,z⟩;obtain⟨sb,ab,mb,cb,rfl,-⟩:=aU.j;obtain⟨cJ,a2⟩:=z.cells);go_meet;refine⟨ga,rfl,by omega,by omega,?_,?_,?_,?_⟩
       ·rw[if_pos cQ];exact(aj.ext z).put aU
       ·exact((bs.ext z).other (p:=⟨ga,0,Y⟩) dO (aj.ext z).not _).other (p:=⟨ga,1,Y⟩) dO ((aj.ext z).not.set _ _) _
       ·rw[bS _ _ _ _ dO,bS _ _ _ _ dO];exact z.e bt
       ·exact((Xa.trans z).set (p:=⟨ga,0,Y⟩) dO _).set (p:=⟨ga,1,Y⟩) dO _
      ·have b8:¬s'<0:=by
        have:=bB.o;rcases Sh nd with ⟨e,h⟩|⟨e,h⟩|⟨e,h⟩<;>omega
       go_wp2;go_meet;exact⟨ga,rfl,bD,bE,by rw[if_neg oM];exact aj,bs,bt,Xa⟩
     case rest =>
      obtain⟨bQ,a2⟩:=bA.o;rw[bQ,a2]at hcut;clear bQ a2 e2 dp aj bs bt Xa bD bE;obtain⟨gb,rfl,dz,dB,ak,aX,ba,Xb⟩:=hcut;obtain⟨sv,av,mv,cv,-,v0,v1,ch,ci,vz,aV⟩:=ak.rd;obtain⟨su,au,mu,cu,-,u0,u1,dP,dQ,uz,cT⟩:=aX.rd;have o1:=Xb.e cz.o;have o2:=Xb.e cB.o;have c0:=Ca o1 (i:=0) (u:=Z X 0) rfl;have c1:=Ca o1 (i:=1) (u:=O Y 0 0) rfl;have c2:=Ca o2 (i:=0) (u:=Z X 0) rfl;have c4:=Ca o2 (i:=1) (u:=O Y 0 0) rfl;have du:=Ua o1 0;have dw:=Ua o1 1;have dx:=Ua o2 0;have dy:=Ua o2 1;have dj:=Gb o1;have dk:=Gb o2;have dJ:¬g=w.heap.size+1+1:=oM;have dK:¬gb=w.heap.size+1+1:=oM;(have n1:ld 3 wc (w.heap.size+1+1):=by intro cs fr e;rw[o1]at e;cases e);(have n2:ld 3 wc (w.heap.size+1+1+1):=by intro cs fr e;rw[o2]at e;cases e);have XF:Ba w wc:=aG.o.trans Xb;clear o1 o2;go_wp2;refine Nh (fun i=>decide (2<i)) (Da [(⟨gb,0,Y⟩,Z X sv),(⟨gb,1,Y⟩,O av mv cv),(⟨g,0,Y⟩,Z X su),(⟨g,1,Y⟩,O au mu cu)]) kM ?_ (fun f=>?_)
      ·exact cA
      refine sN 0 ?_
      (iterate 2 refine Yh ?_);refine oN ?_;refine Jc (i:=2) fun K t=>?_;go_simp;refine kO t (fun _=>?_) (fun f=>?_)
      ·exact cA
      clear t K;replace f:=f rfl;refine Jc (i:=3) fun K t=>?_;go_simp;refine kO t (fun h=>nomatch h) (fun f=>?_);clear t K;refine Kb kM ?_ _;go_wp2;refine bR (v:=.tuple #[M #[Z X sv,O av mv cv],M #[Z X su,O au mu cu]]) (by simp[results,Tryz.results142,go_sem,c0,c1,c2,c4,dj,dk]) rfl ⟨_,_,rfl,?_,?_,eA⟩
      ·exact aV.keep (((((Ia.refl _ wc).x n1 _).x (n1.set _ _) _).x ((n2.set _ _).set _ _) _).x (((n2.set _ _).set _ _).set _ _) _)
      ·exact cT.keep (((((Ia.refl _ wc).x n1 _).x (n1.set _ _) _).x ((n2.set _ _).set _ _) _).x (((n2.set _ _).set _ _).set _ _) _)
def MN(w:I)(va:C)(n0:Nat)(ha:Jd w va n0)(hl:Lm Fb n0):Calls Tryz.prog 211 #[va] w fun e w'=>e=.returned (.string ⟨(Te n0).toArray⟩)/\Ba w w':=by
 obtain⟨a0,m0,c0,rfl⟩:=ha.form;have Hl:=Aa hl;have Ha:=Aa ha;obtain⟨Tx,af⟩:=gX (Te n0);rw[af];have aj:=Aa af;clear ha hl af;go_in;go_wp2;go_loopg [3] n0 (Nx w n0)
 case atStart=>exact⟨n0,n0+1,[],a0,m0,c0,rfl,by omega,by rw[List.append_nil],by simp,by simp,fun s hs=>(by cases hs),(eR _).alloc _,aN _ _,Ha.o.ext ((eR _).alloc _),Ka.nil _ _ _ _,by simp⟩
 case round =>
  obtain⟨n,k,ps,a,m,c,hg,hk,aa,ag,ab,h7,hx,hb,hd,ho,hz⟩:=hrel;have Hx:=Aa hx;have Hd:=Aa hd;have k1:=cell_of_one hb;have kf:=free_of_one hb;have kf:=free_of_one hb;by_cases h0:n=0
  ·have aC:((n:Int)==0)=true:=by simp[h0]
   have av:Wa (n0+1) n0=ps:=by rw[aa,h0,Dx,List.nil_append]
   have HJ:=Aa (fun(W:I)(hW:Ba wr W)=>IK W u3 w.heap.size ps (ho.ext hW) ag h7);obtain⟨va,vn,vc,rfl⟩:=ho.i;obtain⟨T,hT⟩:=gX (Lib.trimLeftB ps.flatten 48);have aw:Tx=if T=[]then [48]else T:=by rw[<-aj.o];unfold Te;rw[av,hT]
   have HT:=Aa hT;have ak:=Aa aw;clear hg hk aa ag ab h7 hd ho av hT aw aj;cases T with
   |nil=>
    go_wp2_with(first|((go_at_call 166;(with_reducible refine(Rj _ (M #[O a m c]) n ?_).mono ?_);(refine Hd.o.ext ?_;exact eA);rintro e w1 ⟨rfl,ac⟩))|(go_at_call 250;refine cM (HJ.o _ eA) ?_;rintro e g ⟨rfl,ad⟩)|(go_at_call 249;(with_reducible refine(Tryz.strings_TrimLeft_one _ 48 dM _).mono ?_);rintro e w3 ⟨rfl,rfl⟩;rw[HT.o]));go_ret;(have e:Tx=[48]:=by have:=ak.o;simpa using this);exact⟨by rw[e];rfl,Hx.o.trans eA⟩
   | cons t T =>
    go_wp2_with(first|((go_at_call 166;(with_reducible refine(Rj _ (M #[O a m c]) n ?_).mono ?_);(refine Hd.o.ext ?_;exact eA);rintro e w1 ⟨rfl,ac⟩))|(go_at_call 250;refine cM (HJ.o _ eA) ?_;rintro e g ⟨rfl,ad⟩)|(go_at_call 249;(with_reducible refine(Tryz.strings_TrimLeft_one _ 48 dM _).mono ?_);rintro e w3 ⟨rfl,rfl⟩;rw[HT.o]));go_ret;(have e:Tx=t::T:=by have:=ak.o;simpa using this);exact⟨by rw[e];rfl,Hx.o.trans eA⟩
  ·have aC:((n:Int)==0)=false:=by simp[h0]
   obtain⟨k',al,am,an,ao⟩:=Nx.step Hl.o h0 hk aa ab;have ap:Lm Ed (n:Int):=by
    have h9:=Hl.o;have h8:n<=n0:=nT (Nat.le_mul_of_pos_right _ (Nat.pow_pos dM)) ab;have h7:Lm Ed (n0:Int):=h9.mono dM;exact⟨by have:=h7.1;have:(0:Int)<=B ^ Ed:=Int.le_of_lt (Ri Fi _);omega,by have:=h7.2;omega⟩
   have aA:=Aa ap;have ae:Sa (n/10000000<k'/\Wa (n0+1) n0=Wa k' (n/10000000)++(If (n%10000000)::ps)/\(If (n%10000000)::ps).length<=2*Fb/\n/10000000*2 ^ (23*(If (n%10000000)::ps).length)<=n0):=Aa ⟨al,am,an,ao⟩;have az:=Aa (show Lm Ed 10000000 from Lm.mono (j:=1) ⟨by decide,by decide⟩ dM);clear ap al am an ao aa ag ab;obtain⟨f,aL⟩:=gX (n%10000000);have aO:(n:Int)%10000000=(f:Int):=oM;have au:Lm 2 (f:Int):=⟨by unfold B;omega,by unfold B;omega⟩;have aB:=Aa au;clear au;go_upto_region 5 with (first|((go_at_call 166;(with_reducible refine(Rj _ (M #[O a m c]) n ?_).mono ?_);(refine Hd.o.ext ?_;exact eA);rintro e w1 ⟨rfl,ac⟩;obtain⟨aE,aH⟩:=ac.cells;(have z1:w.heap.size<w1.heap.size:=by have:=ac.size;omega)))|((go_at_call 182;(with_reducible refine(tC _ (M #[O a m c]) (M #[O (V ⟨w1.heap.size,0,Y⟩) 1 1]) n 10000000 ?_ ?_ aA.o az.o dM).mono ?_);(refine Hd.o.ext ?_;exact eA);(exact xI w1 dM dM);rintro e g ⟨q,r,rfl,hq,hr,ad⟩;rw[aO]at hr;obtain⟨⟨S,mq,cq,rfl⟩,⟨ar,mr,cr,rfl⟩⟩:=And.intro hq.u.form hr.u.form;obtain⟨aF,aI⟩:=ad.cells;(have z2:w.heap.size<g.heap.size:=by have:=ad.size;simp only[wZ]at this;omega)))|((go_at_call 138;(with_reducible refine(Ft _ (M #[O ar mr cr]) (f:Int) ?_ aB.o).mono ?_);(refine hr.u.ext ?_;exact eA);rintro e w3 ⟨rfl,ah⟩;(have z3:g.heap.size+1+1<=w3.heap.size:=by have:=ah.size;simp only[wZ]at this;omega))));clear aE aH aF aI;have X3:Ba wr w3:=eA;obtain⟨wo,rfl⟩:∃W,W=wr:=⟨_,rfl⟩;have aR:=ZP;go_wp2;go_loopg [6,25] 7 (zQ w3 f w3.heap.size)
   case atStart=>exact⟨0,by omega,rfl,rfl,by rw[Nat.pow_zero,Nat.div_one],(eR _).alloc _,aN _ _⟩
   case round =>
    obtain⟨i,hi,aQ,rfl,rfl,d,P⟩:=hrel;by_cases aJ:i<7
    ·obtain⟨x,ai⟩:=gX (f/10 ^ i);rw[ai];have aS:x<10000000:=by
      have:f/10 ^ i<=f:=Nat.div_le_self _ _;omega
     obtain⟨j,hj⟩:=gX (6-i);obtain⟨u,hu⟩:∃u,(Zi f i)[j]?=V u:=⟨_,Array.getElem?_eq_getElem (by unfold Zi;rw[List.size_toArray,lL,WB];omega)⟩;have ki:=Ca P hu;have aV:=Ua P;(have e6:IntKind.i64.wrap (6-(i:Int))=(j:Int):=by rw[iW _ oM];omega);obtain⟨y,hy⟩:=gX (48+x%10);(have e7:IntKind.u64.wrap (48+(x:Int)%10)=(y:Int):=by rw[IntWalk.u64_in _ oM];omega);have e8:IntKind.u8.wrap (y:Int)=(y:Int):=IntWalk.u8_in _ oM;have z9:=d.size;go_wp2;go_roundg (7-(i+1))
     case measure=>omega
     case rel =>
      refine⟨i+1,by omega,rfl,by go_num,?_,d.set (nE _) _,?_⟩
      ·rw[show f/10 ^ (i+1)=x/10 by rw[Nat.pow_succ,<-Nat.div_div_eq_div_mul,ai]];simp
      ·have h9:=RJ f aJ;rw[ai,hy,hj]at h9;rw[<-h9];simp[World.setCell,Array.getElem?_modify,P]
    ·obtain rfl:i=7:=oM;have ay:=Aa P;clear P;go_upto_region 12 with fail;have aG:(convert 308 9 (O (V ⟨w3.heap.size,0,Y⟩) 7 7)).run Tryz.prog wr.drew = .ok (.string ⟨(If f).toArray⟩) wr.drew:=Wr (W:=wr.drew) ay.o;have c4:wr.cell? ⟨g.heap.size,0,Y⟩=V (O S mq cq):=by
      (have h1:(g.alloc (J #[O S mq cq] 59)).cell? ⟨g.heap.size,0,Y⟩=V (O S mq cq):=by go_simp);exact d.d (ah.d (Ba.d ((eR _).alloc _) h1))
     refine Kc [(⟨g.heap.size,0,Y⟩,O S mq cq)] cA fun b=>?_;refine Db (i:=0) ?_;refine Db (i:=3) ?_;refine Db (i:=5) ?_;refine Ld (i:=1) fun K l=>?_;go_simp;refine kO l b (fun b=>?_);clear l K aG;refine Ld (i:=2) fun K l=>?_;go_simp;refine kO l (cE b ((eR _).alloc _)) (fun b=>?_);clear l K;refine Ld (i:=4) fun K l=>?_;have hA:Ba w wr:=Hx.o.trans (X3.trans d);refine YK (T:=9) (t:=307) (z:=.string ⟨#[]⟩) (k:=1) (bytes:=16) (v:=O (V ⟨wr.heap.size,0,Y⟩) 1 1) (base:=w.heap.size) zJ rfl dM dM Tryz.underlying307 rfl _ _ rfl rfl (vH (If f) hA.size) rfl (ps.map sc) WF ((ho.ext (((X3.trans d).alloc _).drew)).rd) VF ?_ ?_ ?_
     ·rw[lL,List.length_singleton];have h9:=ae.o.2.2.1;unfold Fb at h9;rw[List.length_cons]at h9;omega
     ·have:=hA.size;simp only[Cc,wZ];omega
     intro v' w9 R Q aP;obtain⟨a9,n9,c9,rfl⟩:=R.i;(have zb:g.heap.size<wr.heap.size:=by have:=d.size;omega);refine kO l (Da.grown b Q (fun q hq e=>?_)) (fun b=>?_)
     ·have h9:wr.heap.size=g.heap.size:=by
       simp at hq;subst hq;exact Option.some.inj e.symm
      omega
     clear l K;have X9:Ba wr w9:=(((eR wr).alloc (J #[.string ⟨(If f).toArray⟩] 9)).drew).y (Mh (base:=wr.heap.size) Q (by simp only[Cc,wZ];omega) (fun k hk=>by cases hk;exact nE _)) (nE _);have o:w9.heap[w.heap.size]?=V (J #[O a m c] 59 (0,0)):=((X3.trans d).trans X9).e hb;have aT:=cell_of_one o;have aU:=free_of_one o;refine Db (i:=6) ?_;have aM:Jd w9 (M #[O S mq cq]) ((n/10000000:Nat):Int):=by
      (have h9:Jd g (M #[O S mq cq]) ((n/10000000:Nat):Int):=by rw[show ((n/10000000:Nat):Int)=(n:Int)/10000000 by omega];exact hq.u);exact((h9.ext ((((eR _).alloc _).alloc _).trans ah)).ext d).ext X9
     have hT:Ia 2 w9 (w9.setCell ⟨w.heap.size,0,Y⟩ (O S mq cq)):=(Ia.refl _ w9).set o dM _;have aD:Ia 9 w9 (w9.setCell ⟨w.heap.size,0,Y⟩ (O S mq cq)):=(Ia.refl _ w9).set o dM _;have aK:∀q∈[((⟨g.heap.size,0,Y⟩:Addr),Value.slice S mq cq)],(⟨w.heap.size,0,Y⟩:Addr).block≠q.1.block:=by
      intro q hq;simp at hq;subst hq;dsimp only;omega
     refine Ld (i:=7) fun K l=>?_;go_simp;refine kO l (Da.set b aK _) (fun b=>?_);clear l K;refine Wb ?_;go_wp2;have ax:=Aa o;go_roundg (n/10000000)
     case measure=>omega
     case rel =>
      obtain⟨g1,g2,g3,g4⟩:=ae.o;rw[aL]at g2 g3 g4;refine⟨n/10000000,k',If f::ps,S,mq,cq,rfl,g1,g2,g3,g4,?_,?_,?_,?_,?_,?_⟩
      ·intro s hs;rcases List.mem_cons.1 hs with rfl|hs
       ·rfl
       ·exact h7 s hs
      ·exact Ba.set (p:=⟨w.heap.size,0,Y⟩) (hA.trans X9) (nE _) _
      ·exact one_setCell ax.o
      ·exact aM.keep hT
      ·exact R.keep aD
      ·have:=hA.size;have:=X9.size;simp;omega
end
section
open Go.RowKit Go.Shelf Go.Sort Go.Lib
def Ma(s:Sp):Rat×Rat:=Gd (Tb s) (Jb s)
def pl(s:Sp):Jb s≠[]:=by unfold Jb;intro h;have a:Mc s=[]:=List.map_eq_nil_iff.1 h;unfold Mc at a;have b:=DO (zs:=pg (s.lo::s.hi::Eg s (s.over++s.under))) (by intro c;have:=congrArg List.length c;rw[Ar]at this;simp at this);exact b a
def Wt(w:I)(t u:C)(s:Sp)(p:Ja w t s.over)(r:Ja w u s.under)(c:Gg s):Calls Tryz.prog 59 #[Hi s t u] w (Dk w (Ma s).1 (Ma s).2):=by
 have y:=Aa (fun(W:I)(n:Ba w W)=>kD W t u s (p.f n) (r.f n) c);have x:=Aa (fun(W:I)(n:Ba w W)(v:C)(hv:Kh W v (Jb s))=>vL W v t u s (Jb s) hv (p.f n) (r.f n) c (Bh c));obtain⟨a1,m1,rfl⟩:=p.form;obtain⟨a2,m2,rfl⟩:=r.form;obtain⟨n1,f1⟩:=gX s.over.length;obtain⟨n2,f2⟩:=gX s.under.length;obtain⟨lo,l⟩:=gX s.lo;obtain⟨hi,k⟩:=gX s.hi;obtain⟨R,z⟩:=gX (Dk w (Ma s).1 (Ma s).2);rw[z];have HR:=Aa z;unfold Hi at y x ⊢;simp only[f1,f2,l,k]at y x ⊢;clear p r c f1 f2 l k z;have ae:∀(fn:Fn)(first cap:Array C)(w:I),(Instr.makeFunc fn first cap).run Tryz.prog w = .ok (.func fn first cap) w:=fun _ _ _ _=>rfl;go_in;go_wp2;refine Kc [(⟨w.heap.size,0,Y⟩,O a1 n1 m1),(⟨w.heap.size,1,Y⟩,O a2 n2 m2),(⟨w.heap.size,2,Y⟩,Z X lo),(⟨w.heap.size,3,Y⟩,Z X hi)] cA fun a=>?_;refine Db (i:=0) ?_;refine sN 2 ?_
 iterate 2 refine xb ?_
 refine oN ?_;refine Ub (i:=1) (y.o _ eA) ?_;rintro e w3 ⟨r3,rfl,Q,j⟩;refine⟨_,rfl,(cE a j),fun a=>?_⟩;have X3:Ba w w3:=eA;refine Ub (i:=4) (x.o _ X3 _ Q.rs) ?_;rintro e w4 ⟨r4,r5,rfl,f,g,d⟩;obtain⟨⟨a4,m4,c4,s4,b4,n4,k4,rfl⟩,a5,m5,c5,s5,b5,n5,k5,rfl⟩:=And.intro f.form g.form;refine⟨_,rfl,(cE a d),fun a=>?_⟩;refine sN 5 ?_
 iterate 2 refine xb ?_
 refine oN ?_;have X4:Ba w w4:=X3.trans d;have hO:RB w4 (w.heap.size+1) 0:=(((RB.new (Ab.zero _) sM).ext ((eR _).alloc _)).ext ((eR _).drew.trans j)).ext d;have hP:RB w4 (w.heap.size+1+1) 0:=((RB.new (Ab.zero _) sM).ext ((eR _).drew.trans j)).ext d;obtain⟨_,_,_,_,_,_,_,o0,o1,o2,S,T,aa,zo,_⟩:=hO.rd;obtain⟨_,_,_,_,_,_,_,p0,p1,p2,ab,ac,ad,zp,_⟩:=hP.rd;have o:∀b,w.heap.size<b->∀q∈[((⟨w.heap.size,0,Y⟩:Addr),Value.slice a1 n1 m1),(⟨w.heap.size,1,Y⟩,O a2 n2 m2),(⟨w.heap.size,2,Y⟩,Z X lo),(⟨w.heap.size,3,Y⟩,Z X hi)],b≠q.1.block:=by
  intro b hb q hq;simp at hq;rcases hq with rfl|rfl|rfl|rfl<;>(dsimp only;omega)
 refine Ld (i:=7) fun K m=>?_;go_simp;refine kO m (Da.set3 a (o _ oM) _ _ _) (fun a=>?_);clear m K;refine Ld (i:=8) fun K m=>?_;go_simp;refine kO m (Da.set3 a (o _ oM) _ _ _) (fun a=>?_);clear m K;refine Wb ?_;have P:=Aa (RB.copy2 hO hP oM f g rfl rfl);go_wp2;refine bR (v:=.tuple #[M #[O a4 m4 c4,H s4,O b4 n4 k4],M #[O a5 m5 c5,H s5,O b5 n5 k5]]) (by simp[results,Tryz.results59,go_sem,o0,o1,o2,S,T,aa,p0,p1,p2,ab,ac,ad]) rfl ?_;rw[<-HR.o];obtain⟨P1,P2,P3,P4,P5,P6⟩:=P.o;exact⟨_,_,rfl,f.keep P4,g.keep P4,P6 w X4 oM oM⟩
def re(ps qs:LP):Bool:=if (Nb ps qs).lo<(Nb ps qs).hi then decide (0<=(Ma (Nb ps qs)).2.num.sign)else true
def Tv(w:I)(o p:C)(ps qs:LP)(m:Ja w o ps)(n:Ja w p qs)(y:mc ps)(z:mc qs):Calls Tryz.prog 131 #[o,p] w fun e w'=>e=.returned (H (re ps qs))/\Ba w w':=by
 have S:0<ps.length:=List.length_pos_iff.2 y.1;have T:0<qs.length:=List.length_pos_iff.2 z.1;have a:=Aa (fun(W:I)(i:Ba w W)=>xr W o p ps qs (m.f i) (n.f i) S T);have l:=Aa (fun(W:I)(i:Ba w W)=>Wt W o p (Nb ps qs) (m.f i) (n.f i) (lk y z));obtain⟨B,q⟩:=gX (re ps qs);rw[q];have c:=Aa q;unfold re at c;obtain⟨s,R⟩:=gX (Nb ps qs);rw[R]at c a l;obtain⟨a1,m1,rfl⟩:=m.form;obtain⟨a2,m2,rfl⟩:=n.form;obtain⟨n1,P⟩:=gX ps.length;obtain⟨n2,Q⟩:=gX qs.length;obtain⟨K,g⟩:=gX s.lo;obtain⟨u,f⟩:=gX s.hi;unfold Gk at a;unfold Hi at a l;simp only[P,Q,g,f]at c a l ⊢;clear m n y z S T q R P Q g f;by_cases b:K<u
 ·have e:decide (K<u)=true:=by simpa using b
  rw[if_pos b]at c;rw[e]at a;obtain⟨k,v⟩:=gX ((Ma s).2.num.sign);rw[v]at c;have Hk:=Aa v;clear v e b;go_in;go_wp2_with(first|(go_at_call 58;refine cM (a.o _ eA) ?_;rintro e w3 ⟨rfl,d⟩;obtain⟨r,t⟩:=d.cells)|(go_at_call 59;refine cM (l.o _ eA) ?_;rintro e w4 ⟨r4,r5,rfl,x,j,aa⟩;obtain⟨a4,m4,c4,s4,b4,n4,k4,rfl⟩:=x.form;obtain⟨a5,m5,c5,s5,b5,n5,k5,rfl⟩:=j.form)|(go_at_call 93;(with_reducible refine(jr _ _ _ (j.ext ?_)).mono ?_);exact eA;rintro e w6 ⟨rfl,ab⟩;rw[Hk.o]));go_ret;exact⟨by rw[<-c.o];rfl,eA⟩
 ·have e:decide (K<u)=false:=by simpa using b
  rw[if_neg b]at c;rw[e]at a;clear e b;go_in;go_wp2_with(first|(go_at_call 58;refine cM (a.o _ eA) ?_;rintro e w3 ⟨rfl,d⟩;obtain⟨r,t⟩:=d.cells));go_ret;exact⟨by rw[<-c.o];rfl,eA⟩
end
section
open Go.RowKit Go.Shelf
attribute [local go_sem] Oper.semAt_some
def yd(n:Int):List UInt8:=if n<0 then 45::Te n.natAbs else Te n.natAbs
def mg(q:Rat):List UInt8:=if q.den=1 then yd q.num else yd q.num++(47::yd q.den)
def qk(x z:Rat):List UInt8:=40::(mg x++(44::32::(mg z++[41])))
def YD:∀(k n:Nat),n<k->n≠0->0<(Wa k n).length/\2 ^ (23*((Wa k n).length-1))<=n
 | 0,_,h,_=>by omega
 | k+1,n,h,d=>by
  rw[Wa,if_neg d,lA,List.length_singleton];refine⟨by omega,?_⟩;rw[Nat.add_sub_cancel];by_cases b:n/10000000=0
  ·rw[b,Dx];simp;omega
  ·obtain⟨c,a⟩:=YD k (n/10000000) oM b;obtain⟨L,e⟩:∃L,(Wa k (n/10000000)).length=L+1:=⟨_,(Nat.succ_pred_eq_of_pos c).symm⟩;rw[e]at a ⊢;rw[Nat.add_sub_cancel]at a;rw[Nat.mul_add,Nat.pow_add,show (2:Nat) ^ (23*1)=8388608 from rfl];have:n/10000000*8388608<=n:=oM;exact nT (Nat.mul_le_mul_right _ a) this
def AE:∀(k n:Nat),∀s∈Wa k n,s.length=7
 | 0,_,s,h=>by simp[Wa]at h
 | k+1,n,s,h=>by
  unfold Wa at h;split at h
  ·cases h
  ·rcases List.mem_append.1 h with h|h
   ·exact AE k _ s h
   ·rw[List.mem_singleton.1 h];rfl
def It{n:Nat}(h:Lm Fb (n:Int)):(Te n).length<=20*Fb:=by
 have g:(Wa (n+1) n).length<=2*Fb:=by
  by_cases c:n=0
  ·rw[c,Dx];exact Nat.zero_le _
  ·obtain⟨f,d⟩:=YD (n+1) n oM c;have a:(n:Int)<B ^ Fb:=h.2;have e:(B:Int) ^ Fb=((2 ^ (24*Fb):Nat):Int):=by
    rw[Nat.pow_mul];unfold B;rw[Int.natCast_pow];rfl
   rw[e]at a;have b:n<2 ^ (24*Fb):=by exact_mod_cast a
   have k:23*((Wa (n+1) n).length-1)<24*Fb:=(Nat.pow_lt_pow_iff_right (by decide:1<2)).1 (Nat.lt_of_le_of_lt d b);unfold Fb at *;omega
 have i:=Vl (AE (n+1) n);have j:(Lib.trimLeftB (Wa (n+1) n).flatten 48).length<=(Wa (n+1) n).flatten.length:=List.IsSuffix.length_le (List.dropWhile_suffix _);unfold Te;split
 ·unfold Fb;simp
 ·omega
def Xp{n:Int}(h:Lm Fb n):(yd n).length<=21*Fb:=by
 have:=It (n:=n.natAbs) h.abs;unfold yd;split
 ·rw[List.length_cons];unfold Fb at *;omega
 ·omega
def iD{q:Rat}(h:Rb Fb q):(mg q).length<=43*Fb:=by
 have a:=Xp h.1;have b:=Xp h.2;unfold mg;split
 ·omega
 ·rw[lA,List.length_cons];unfold Fb at *;omega
def ll(a b:List UInt8):(⟨a.toArray⟩:ByteArray)++(⟨b.toArray⟩:ByteArray)=⟨(a++b).toArray⟩:=by apply ByteArray.ext;rw[ByteArray.data_append];simp
def SC(w:I)(v:C)(n:Int)(h:vd w v n)(f:Lm Fb n):Calls Tryz.prog 167 #[v] w fun e o=>e=.returned (.string ⟨(yd n).toArray⟩)/\Ba w o:=by
 obtain⟨a,m,c,s,rfl⟩:=h.form;have i:=Aa (fun(W:I)(l:Ba w W)=>MN W (M #[O a m c]) n.natAbs (h.dig.ext l) f.abs);have j:=h.sgn;unfold yd;clear h;cases s with
 |true=>
  have g:n<0:=by simpa using j.symm
  rw[if_pos g];obtain⟨T,b⟩:=gX (Te n.natAbs);rw[b]at i ⊢;have d:T.length<=20*Fb:=by rw[<-b];exact It f.abs
  unfold Fb at d;clear j g b f;go_in;go_wp2_with((go_at_call 211;refine cM (i.o _ eA) ?_;rintro e p ⟨rfl,k⟩));go_ret;exact⟨by rw[show (⟨#[45]⟩:ByteArray)=⟨[45].toArray⟩from rfl,ll];rfl,eA⟩
 |false=>
  have g:¬n<0:=by simpa using j.symm
  rw[if_neg g];obtain⟨T,b⟩:=gX (Te n.natAbs);rw[b]at i ⊢;have d:T.length<=20*Fb:=by rw[<-b];exact It f.abs
  unfold Fb at d;clear j g b f;go_in;go_wp2_with((go_at_call 211;refine cM (i.o _ eA) ?_;rintro e p ⟨rfl,k⟩));go_ret;exact⟨rfl,eA⟩
end
section
open Go.RowKit Go.Shelf Go.Sort Go.Lib
def jf(p q:Pl):Int:=
 if Ya (Ea p)<=Ra (Ea q)then 1
 else if Ya (Ea q)<=Ra (Ea p)then 2
 else if re (Ea p) (Pb q)then 3
 else if re (Ea q) (Pb p)then 4
 else 5
def Fl(w:I)(c:List C)(p:Pl):Prop:=∃v vl vu,c=(Je p v vl vu).toList/\Ja w v p.shape/\Ja w vl (Ea p)/\Ja w vu (Pb p)
def Ce(w:I)(v:C)(p:Pl):Prop:=∃s vl vu,v=M (Je p s vl vu)/\Ja w s p.shape/\Ja w vl (Ea p)/\Ja w vu (Pb p)
def Ce.ext{w w':I}{v:C}{p:Pl}(h:Ce w v p)(k:Ba w w'):Ce w' v p:=by obtain⟨s,e,f,a,b,c,d⟩:=h;exact⟨s,e,f,a,b.f k,c.f k,d.f k⟩
abbrev Sb(w:I)(v:C)(ps:List Pl):Prop:=Sl 128 12 Fl w v ps
def Fl.ext{w w':I}{c:List C}{p:Pl}(h:Fl w c p)(k:Ba w w'):Fl w' c p:=by obtain⟨s,f,g,a,b,d,e⟩:=h;exact⟨s,f,g,a,b.f k,d.f k,e.f k⟩
def Fl.keep{w w':I}{c:List C}{p:Pl}(h:Fl w c p)(k:Ia 43 w w'):Fl w' c p:=by obtain⟨s,f,g,a,b,d,e⟩:=h;exact⟨s,f,g,a,b.z k,d.z k,e.z k⟩
def Sb.f{w w':I}{v:C}{ps:List Pl}(h:Sb w v ps)(k:Ba w w'):Sb w' v ps:=Sl.ext h (fun _ _ h=>Fl.ext h k) k
def Mw(w:I)(v1 v2:C)(p q:Pl)(h1:Ce w v1 p)(h2:Ce w v2 q)(k1:Fa p=true)(k2:Fa q=true):Calls Tryz.prog 55 #[v1,v2] w fun e w'=>e=.returned (Z .u8 (jf p q))/\Ba w w':=by
 obtain⟨s1,l1,u1,rfl,p1,x,p3⟩:=h1;obtain⟨s2,l2,u2,rfl,q1,y,q3⟩:=h2;obtain⟨S,o2⟩:=Lh k1;obtain⟨T,o4⟩:=Lh k2;have HA:=Aa (fun(W:I)(c:Ba w W)=>Yp W l1 (Ea p) (x.f c) (List.length_pos_iff.2 S.1));have HB:=Aa (fun(W:I)(c:Ba w W)=>Po W l2 (Ea q) (y.f c) (List.length_pos_iff.2 T.1));have HC:=Aa (fun(W:I)(c:Ba w W)=>Po W l1 (Ea p) (x.f c) (List.length_pos_iff.2 S.1));have HD:=Aa (fun(W:I)(c:Ba w W)=>Yp W l2 (Ea q) (y.f c) (List.length_pos_iff.2 T.1));have R:=Aa (fun(W:I)(c:Ba w W)=>Tv W l1 u2 (Ea p) (Pb q) (x.f c) (q3.f c) S o4);have HF:=Aa (fun(W:I)(c:Ba w W)=>Tv W l2 u1 (Ea q) (Pb p) (y.f c) (p3.f c) T o2);obtain⟨ap,ar,rfl⟩:=p1.form;obtain⟨aq,au,rfl⟩:=q1.form;obtain⟨a1,c1,rfl⟩:=x.form;obtain⟨a2,c2,rfl⟩:=y.form;obtain⟨z,P,rfl⟩:=p3.form;obtain⟨K,Q,rfl⟩:=q3.form;obtain⟨k,hk⟩:=gX (jf p q);have f:=Aa hk;unfold jf at f;rw[hk];obtain⟨n1,f1⟩:=gX ((Ea p).length);obtain⟨n2,f2⟩:=gX ((Ea q).length);obtain⟨m1,f3⟩:=gX ((Pb p).length);obtain⟨m2,f4⟩:=gX ((Pb q).length);obtain⟨j1,f5⟩:=gX p.shape.length;obtain⟨j2,f6⟩:=gX q.shape.length;obtain⟨rp,f7⟩:=gX (Ya (Ea p));obtain⟨lp,f8⟩:=gX (Ra (Ea p));obtain⟨rq,f9⟩:=gX (Ya (Ea q));obtain⟨lq,r⟩:=gX (Ra (Ea q));obtain⟨fa,s⟩:=gX (re (Ea p) (Pb q));obtain⟨fb,t⟩:=gX (re (Ea q) (Pb p));simp only[f1,f2,f3,f4,f5,f6,f7,f8,f9,r,s,t]at HA HB HC HD R HF f ⊢;obtain⟨nm,sh,d,de,gx,gz,wy,ax,az,sk⟩:=p;obtain⟨ao,av,d',al,am,an,ay,af,ag,aw⟩:=q;clear hk p1 x p3 q1 y q3 S o2 T o4 k1 k2 f1 f2 f3 f4 f5 f6 f7 f8 f9 r s t;unfold Je;dsimp only;go_in;go_wp2;refine Kc [(⟨w.heap.size,10,Y⟩,O a1 n1 c1),(⟨w.heap.size+1,10,Y⟩,O a2 n2 c2),(⟨w.heap.size,11,Y⟩,O z m1 P),(⟨w.heap.size+1,11,Y⟩,O K m2 Q)] cA fun a=>?_;refine sN 0 ?_
 iterate 2 refine xb ?_
 refine oN ?_;refine sN 3 ?_
 iterate 2 refine xb ?_
 refine oN ?_;refine Ub (i:=2) (HA.o _ eA) ?_;rintro e w3 ⟨rfl,u⟩;refine⟨_,rfl,(cE a u),fun a=>?_⟩;have X3:Ba w w3:=eA;refine Ub (i:=5) (HB.o _ X3) ?_;rintro e w4 ⟨rfl,g⟩;refine⟨_,rfl,(cE a g),fun a=>?_⟩;have X4:Ba w w4:=X3.trans g;refine sN 6 ?_
 iterate 2 refine xb ?_
 refine oN ?_;refine Wb ?_;obtain⟨ah,ai,aj,ak,_⟩:=a;(try clear u);clear g X3;by_cases g1:rp<=lq
 ·go_wp2;go_ret;exact⟨by rw[<-f.o,if_pos g1];rfl,X4⟩
 rw[if_neg g1]at f;have aA:=X4.size;go_wp2;refine Kc [(⟨w.heap.size,10,Y⟩,O a1 n1 c1),(⟨w.heap.size+1,10,Y⟩,O a2 n2 c2),(⟨w.heap.size,11,Y⟩,O z m1 P),(⟨w.heap.size+1,11,Y⟩,O K m2 Q)] cA fun a=>?_;refine sN 0 ?_
 iterate 2 refine xb ?_
 refine oN ?_;refine sN 3 ?_
 iterate 2 refine xb ?_
 refine oN ?_;refine Ub (i:=2) (HC.o _ eA) ?_;rintro e w5 ⟨rfl,v⟩;refine⟨_,rfl,(cE a v),fun a=>?_⟩;have X5:Ba w w5:=eA;refine Ub (i:=5) (HD.o _ X5) ?_;rintro e w6 ⟨rfl,j⟩;refine⟨_,rfl,(cE a j),fun a=>?_⟩;have X6:Ba w w6:=X5.trans j;refine sN 6 ?_
 iterate 2 refine xb ?_
 refine oN ?_;refine Wb ?_;obtain⟨l,m,n,o,_⟩:=a;(try clear v);clear j X5;by_cases g2:rq<=lp
 ·go_wp2;go_ret;exact⟨by rw[<-f.o,if_pos g2];rfl,X6⟩
 rw[if_neg g2]at f;cases fa with
 |true=>
  go_wp2_with(go_at_call 131;refine cM (R.o _ eA) ?_;rintro e w7 ⟨rfl,b⟩);go_ret;exact⟨by rw[<-f.o];rfl,eA⟩
 |false=>
  cases fb with
  |true=>
   go_wp2_with(first|(go_at_call 131;(with_reducible refine(R.o _ ?_).mono ?_);exact eA;rintro e w7 ⟨rfl,b⟩;have aa:=b.d l;have ab:=b.d m;have ac:=b.d n;have ad:=b.d o)|(go_at_call 131;(with_reducible refine(HF.o _ ?_).mono ?_);exact eA;rintro e w8 ⟨rfl,ae⟩));go_ret;exact⟨by rw[<-f.o];rfl,eA⟩
  |false=>
   go_wp2_with(first|(go_at_call 131;(with_reducible refine(R.o _ ?_).mono ?_);exact eA;rintro e w7 ⟨rfl,b⟩;have aa:=b.d l;have ab:=b.d m;have ac:=b.d n;have ad:=b.d o)|(go_at_call 131;(with_reducible refine(HF.o _ ?_).mono ?_);exact eA;rintro e w8 ⟨rfl,ae⟩));go_ret;exact⟨by rw[<-f.o];rfl,eA⟩
def Sb.at'{w:I}{a:Option Addr}{n c:Nat}{ps:List Pl}(h:Sb w (O a n c) ps){i:Nat}{p:Pl}(q:ps[i]?=V p):∃b o s vl vu,a=V ⟨b,o,Y⟩/\b<w.heap.size/\Ja w s p.shape/\Ja w vl (Ea p)/\Ja w vu (Pb p)/\∀(j:Nat) u,(Je p s vl vu)[j]?=V u->w.cell? ⟨b,o+i*12+j,Y⟩=V u:=by obtain⟨b,o,d,rfl,k,r,⟨s,vl,vu,rfl,e,f,g⟩,l⟩:=Sl.at h q;exact⟨b,o,s,vl,vu,rfl,k,e,f,g,fun j u m=>l j u (by rw[Array.getElem?_toList];exact m)⟩
def Ou(W:I)(b:Nat)(p:Pl)(s a c:C):Prop:=W.heap[b]?=V (J (Je p s a c) 128 (0,0))/\Ja W s p.shape/\Ja W a (Ea p)/\Ja W c (Pb p)
def Bf(q p:Pl):Bool:=sd q p&&(jf q p==5)
def Uf(a:ByteArray)(p:Pl):Bool:=p.name.toList==a.toList
def BK(w:I)(l:C)(p:Pl)(g:ByteArray)(a:Nat)(h:Ce w l p)(m:w.cell? ⟨a,0,Y⟩=V (.string g)):Calls Tryz.prog 130 #[l,F (V ⟨a,0,Y⟩)] w fun e s=>e=.returned (H (Uf g p))/\Ba w s:=by obtain⟨s1,R,u1,rfl,i,j,k⟩:=h;obtain⟨n,o,rfl⟩:=i.form;obtain⟨u,y,rfl⟩:=j.form;obtain⟨q,r,rfl⟩:=k.form;obtain⟨T,b⟩:=gX ((Ea p).length);obtain⟨S,c⟩:=gX ((Pb p).length);obtain⟨Q,f⟩:=gX p.shape.length;rw[b,c,f];obtain⟨W,sh,d,z,K,P,wy,v,x,sk⟩:=p;clear i j k b c f;have zq:a<w.heap.size:=World.block_lt_of_cell? w _ m;have t:a<w.heap.size+1:=oM;unfold Je Uf;dsimp only;go_in;go_wp2;go_ret;exact⟨rfl,eA⟩
def WL(w:I)(vp:C)(p q:Pl)(k:Nat)(s vl vu:C)(h:Ce w vp p)(hq:Ou w k q s vl vu)(k1:Fa p=true)(k2:Fa q=true):Calls Tryz.prog 132 #[vp,F (V ⟨k,0,Y⟩)] w fun e w'=>e=.returned (H (Bf q p))/\Ba w w':=by
 obtain⟨b,n,P,Q⟩:=hq;have j:=Aa (fun(W:I)(l:Ba w W)=>Mw W (M (Je q s vl vu)) vp q p ⟨_,_,_,rfl,n.f l,P.f l,Q.f l⟩ (h.ext l) k2 k1);obtain⟨s1,l1,u1,rfl,K,p2,p3⟩:=h;have f:=Aa (fun(W:I)=>Tp W q p s s1 (by obtain⟨a,c,h⟩:=n.form;exact⟨a,_,c,h⟩) (by obtain⟨a,c,h⟩:=K.form;exact⟨a,_,c,h⟩));obtain⟨au,av,rfl⟩:=K.form;obtain⟨a1,c1,rfl⟩:=p2.form;obtain⟨ay,aA,rfl⟩:=p3.form;obtain⟨R,S,rfl⟩:=n.form;obtain⟨a2,c2,rfl⟩:=P.form;obtain⟨aa,ab,rfl⟩:=Q.form;obtain⟨n1,f1⟩:=gX ((Ea p).length);obtain⟨n2,f2⟩:=gX ((Ea q).length);obtain⟨m1,f3⟩:=gX ((Pb p).length);obtain⟨m2,f4⟩:=gX ((Pb q).length);obtain⟨j1,f5⟩:=gX p.shape.length;obtain⟨j2,f6⟩:=gX q.shape.length;obtain⟨r,f7⟩:=gX (jf q p);obtain⟨m,f8⟩:=gX (sd q p);unfold Bf;simp only[f1,f2,f3,f4,f5,f6,f7,f8]at j f b ⊢;obtain⟨nm,sh,d,de,gx,gz,wy,ax,az,sk⟩:=p;obtain⟨z,aw,d',v,x,y,ac,o,t,T⟩:=q;unfold Je at j b ⊢;unfold Dd at f;dsimp only at j f b ⊢;have af:=Ca b (i:=0) (u:=.string z) rfl;have ag:=Ca b (i:=1) (u:=O R j2 S) rfl;have ah:=Ca b (i:=2) (u:=Z X d') rfl;have ai:=Ca b (i:=3) (u:=Z X v) rfl;have aj:=Ca b (i:=4) (u:=Z X x) rfl;have ak:=Ca b (i:=5) (u:=Z X y) rfl;have al:=Ca b (i:=6) (u:=Z X ac) rfl;have am:=Ca b (i:=7) (u:=Z X o) rfl;have an:=Ca b (i:=8) (u:=Z X t) rfl;have ao:=Ca b (i:=9) (u:=Z .u8 T) rfl;have ad:=Ca b (i:=10) (u:=O a2 n2 c2) rfl;have ae:=Ca b (i:=11) (u:=O aa m2 ab) rfl;have zq:k<w.heap.size:=Gb b;have aB:k<w.heap.size+1:=oM;clear b K p2 p3 n P Q k1 k2 f1 f2 f3 f4 f5 f6 f7 f8;cases m with
 |false=>
  go_in;go_wp2_with(go_at_call 54;refine cM (f.o _) ?_;rintro e w3 ⟨rfl,g⟩);go_ret;exact⟨rfl,eA⟩
 |true=>
  go_in;go_wp2_with(first|(go_at_call 54;refine cM (f.o _) ?_;rintro e w3 ⟨rfl,g⟩;obtain⟨ap,aq⟩:=g.cells)|(go_at_call 55;refine cM (j.o _ eA) ?_;rintro e w4 ⟨rfl,ar⟩));go_ret;exact⟨rfl,eA⟩
def tF(w:I)(f:Pl->Bool)(ps:List Pl)(g:Nat)(a:C)(W:I):Prop:=
 ∃i:Nat,i<=ps.length/\a=Z X i/\g=ps.length-i/\Ba w W/\∀j y,j<i->ps[j]?=V y->f y=false
def nM(w:I)(v:C)(ps:List Pl)(bq:Nat)(f:Pl->Bool)(h:Sb w v ps)(hf:∀W,Ba w W->∀vp p,p∈ps->Ce W vp p->Calls Tryz.prog 130 #[vp,F (V ⟨bq,0,Y⟩)] W fun e w'=>e=.returned (H (f p))/\Ba W w'):Calls Tryz.prog 181 #[v,.func (.func 130) #[] #[F (V ⟨bq,0,Y⟩)]] w fun e w'=>e=.returned (Z X (Pe f ps))/\Ba w w':=by
 obtain⟨a,c,rfl⟩:=h.form;obtain⟨n,hn⟩:=gX ps.length;rw[hn]at h ⊢;have r:=h.le;unfold maxLen at r;have ar:n<=9223372036854775807:=oM;have k:=Aa hn;have Hf:=Aa hf;clear hn r hf;go_in;go_wp2;go_loopg [8] n (tF w f ps)
 case atStart=>exact⟨0,by omega,rfl,by rw[k.o];rfl,eR _,fun j y x=>by omega⟩
 case round =>
  obtain⟨i,hi,rfl,rfl,hx,l⟩:=hrel;rw[k.o]at hi;have g:=Aa l;clear l;by_cases aa:i<n
  ·obtain⟨p,z⟩:∃q,ps[i]?=V q:=⟨ps[i]'(by rw[k.o];omega),by simp[k.o,aa]⟩;obtain⟨b,o,s,vl,vu,rfl,hb,P,Q,R,d⟩:=(h.f hx).at' z;have m:=Aa (fun W (u:Ba wr W)=>Hf.o W (hx.trans u) (M (Je p s vl vu)) p (lM z) ⟨_,_,_,rfl,P.f u,Q.f u,R.f u⟩);obtain⟨ac,ad,rfl⟩:=P.form;obtain⟨a1,c1,rfl⟩:=Q.form;obtain⟨ae,af,rfl⟩:=R.form;obtain⟨n1,f1⟩:=gX ((Ea p).length);obtain⟨m1,f3⟩:=gX ((Pb p).length);obtain⟨j1,f5⟩:=gX p.shape.length;obtain⟨fp,S⟩:=gX (f p);rw[f1,f3,f5]at d m;rw[S]at m;have F7:=Aa S;have K:=d 0 (.string p.name) rfl;have ai:=d 1 (O ac j1 ad) rfl;have aj:=d 2 (Z X p.depth) rfl;have ak:=d 3 (Z X p.density) rfl;have al:=d 4 (Z X p.gx) rfl;have am:=d 5 (Z X p.gz) rfl;have an:=d 6 (Z X p.way) rfl;have ao:=d 7 (Z X p.ax) rfl;have ap:=d 8 (Z X p.az) rfl;have aq:=d 9 (Z .u8 p.skin) rfl;have ag:=d 10 (O a1 n1 c1) rfl;have ah:=d 11 (O ae m1 af) rfl;simp only[Nat.add_zero]at K;have Hq:=Aa z;unfold Je at m;clear z d P Q R f1 f3 f5 S;cases fp with
   |true=>
    have e:Pe f ps=(i:Int):=ku Hq.o F7.o g.o;have E:=Aa e;clear e;go_wp2_with(((go_at_call 130;refine cM (m.o _ eA) ?_;rintro e w1 ⟨rfl,ab⟩)));go_ret;exact⟨by rw[E.o];rfl,eA⟩
   |false=>
    go_wp2_with(((go_at_call 130;refine cM (m.o _ eA) ?_;rintro e w1 ⟨rfl,ab⟩)));go_roundg (n-(i+1))
    case measure=>have:=k.o;omega
    case rel =>
     refine⟨i+1,by have:=k.o;omega,by go_num,by rw[k.o],eA,fun j y x t=>?_⟩;by_cases T:j=i
     ·subst T;rw[Hq.o]at t;cases t;exact F7.o
     ·exact g.o j y oM t
  ·obtain rfl:i=n:=oM;have e:Pe f ps = -1:=lu (fun j y x t=>g.o j y (by rw[k.o]at x;exact x) t);have E:=Aa e;clear e;go_wp2;go_ret;exact⟨by rw[E.o];rfl,hx⟩
def QN(w:I)(v:C)(ps:List Pl)(b:Nat)(f:Pl->Bool)(h:Sb w v ps)(k:∀W,Ba w W->∀vp p,p∈ps->Ce W vp p->Calls Tryz.prog 130 #[vp,F (V ⟨b,0,Y⟩)] W fun e g=>e=.returned (H (f p))/\Ba W g):Calls Tryz.prog 129 #[v,.func (.func 130) #[] #[F (V ⟨b,0,Y⟩)]] w fun e g=>e=.returned (H (ps.any f))/\Ba w g:=by
 rw[<-Nv];obtain⟨x,l⟩:=gX (Pe f ps);have j:=fun W (i:Ba w W)=>nM W v ps b f (h.f i) (fun W' d=>k W' (i.trans d));obtain⟨a,n,c,rfl⟩:∃a n c,v=O a n c:=by obtain⟨a,c,h⟩:=h.form;exact⟨a,_,c,h⟩
 rw[l]at *;have m:=Aa j;clear j l h k;go_in;go_wp2_with(((go_at_call 181;refine cM (m.o _ eA) ?_;rintro e q ⟨rfl,o⟩)));go_ret;exact⟨rfl,eA⟩
def qM(w:I)(v:C)(ps:List Pl)(bq:Nat)(f:Pl->Bool)(h:Sb w v ps)(hf:∀W,Ba w W->∀vp p,p∈ps->Ce W vp p->Calls Tryz.prog 132 #[vp,F (V ⟨bq,0,Y⟩)] W fun e w'=>e=.returned (H (f p))/\Ba W w'):Calls Tryz.prog 181 #[v,.func (.func 132) #[] #[F (V ⟨bq,0,Y⟩)]] w fun e w'=>e=.returned (Z X (Pe f ps))/\Ba w w':=by
 obtain⟨a,c,rfl⟩:=h.form;obtain⟨n,hn⟩:=gX ps.length;rw[hn]at h ⊢;have r:=h.le;unfold maxLen at r;have ar:n<=9223372036854775807:=oM;have k:=Aa hn;have Hf:=Aa hf;clear hn r hf;go_in;go_wp2;go_loopg [8] n (tF w f ps)
 case atStart=>exact⟨0,by omega,rfl,by rw[k.o];rfl,eR _,fun j y x=>by omega⟩
 case round =>
  obtain⟨i,hi,rfl,rfl,hx,l⟩:=hrel;rw[k.o]at hi;have g:=Aa l;clear l;by_cases aa:i<n
  ·obtain⟨p,z⟩:∃q,ps[i]?=V q:=⟨ps[i]'(by rw[k.o];omega),by simp[k.o,aa]⟩;obtain⟨b,o,s,vl,vu,rfl,hb,P,Q,R,d⟩:=(h.f hx).at' z;have m:=Aa (fun W (u:Ba wr W)=>Hf.o W (hx.trans u) (M (Je p s vl vu)) p (lM z) ⟨_,_,_,rfl,P.f u,Q.f u,R.f u⟩);obtain⟨ac,ad,rfl⟩:=P.form;obtain⟨a1,c1,rfl⟩:=Q.form;obtain⟨ae,af,rfl⟩:=R.form;obtain⟨n1,f1⟩:=gX ((Ea p).length);obtain⟨m1,f3⟩:=gX ((Pb p).length);obtain⟨j1,f5⟩:=gX p.shape.length;obtain⟨fp,S⟩:=gX (f p);rw[f1,f3,f5]at d m;rw[S]at m;have F7:=Aa S;have K:=d 0 (.string p.name) rfl;have ai:=d 1 (O ac j1 ad) rfl;have aj:=d 2 (Z X p.depth) rfl;have ak:=d 3 (Z X p.density) rfl;have al:=d 4 (Z X p.gx) rfl;have am:=d 5 (Z X p.gz) rfl;have an:=d 6 (Z X p.way) rfl;have ao:=d 7 (Z X p.ax) rfl;have ap:=d 8 (Z X p.az) rfl;have aq:=d 9 (Z .u8 p.skin) rfl;have ag:=d 10 (O a1 n1 c1) rfl;have ah:=d 11 (O ae m1 af) rfl;simp only[Nat.add_zero]at K;have Hq:=Aa z;unfold Je at m;clear z d P Q R f1 f3 f5 S;cases fp with
   |true=>
    have e:Pe f ps=(i:Int):=ku Hq.o F7.o g.o;have E:=Aa e;clear e;go_wp2_with(((go_at_call 132;refine cM (m.o _ eA) ?_;rintro e w1 ⟨rfl,ab⟩)));go_ret;exact⟨by rw[E.o];rfl,eA⟩
   |false=>
    go_wp2_with(((go_at_call 132;refine cM (m.o _ eA) ?_;rintro e w1 ⟨rfl,ab⟩)));go_roundg (n-(i+1))
    case measure=>have:=k.o;omega
    case rel =>
     refine⟨i+1,by have:=k.o;omega,by go_num,by rw[k.o],eA,fun j y x t=>?_⟩;by_cases T:j=i
     ·subst T;rw[Hq.o]at t;cases t;exact F7.o
     ·exact g.o j y oM t
  ·obtain rfl:i=n:=oM;have e:Pe f ps = -1:=lu (fun j y x t=>g.o j y (by rw[k.o]at x;exact x) t);have E:=Aa e;clear e;go_wp2;go_ret;exact⟨by rw[E.o];rfl,hx⟩
def SN(w:I)(v:C)(ps:List Pl)(b:Nat)(f:Pl->Bool)(h:Sb w v ps)(k:∀W,Ba w W->∀vp p,p∈ps->Ce W vp p->Calls Tryz.prog 132 #[vp,F (V ⟨b,0,Y⟩)] W fun e g=>e=.returned (H (f p))/\Ba W g):Calls Tryz.prog 129 #[v,.func (.func 132) #[] #[F (V ⟨b,0,Y⟩)]] w fun e g=>e=.returned (H (ps.any f))/\Ba w g:=by
 rw[<-Nv];obtain⟨x,l⟩:=gX (Pe f ps);have j:=fun W (i:Ba w W)=>qM W v ps b f (h.f i) (fun W' d=>k W' (i.trans d));obtain⟨a,n,c,rfl⟩:∃a n c,v=O a n c:=by obtain⟨a,c,h⟩:=h.form;exact⟨a,_,c,h⟩
 rw[l]at *;have m:=Aa j;clear j l h k;go_in;go_wp2_with(((go_at_call 181;refine cM (m.o _ eA) ?_;rintro e q ⟨rfl,o⟩)));go_ret;exact⟨rfl,eA⟩
end
section
open Go.RowKit Go.Shelf
attribute [local go_sem] Oper.semAt_some
def Ew{x y:Int}(c:0<=x)(hy:0<y):Int.gcd y (x%y)=Int.gcd x y:=by obtain⟨a,rfl⟩:=Int.eq_ofNat_of_zero_le c;obtain⟨b,rfl⟩:=Int.eq_ofNat_of_zero_le (Int.le_of_lt hy);rw[<-Int.natCast_emod,Int.gcd_natCast_natCast,Int.gcd_natCast_natCast,Nat.gcd_comm b,<-Nat.gcd_rec,Nat.gcd_comm]
def JD{x:Int}(a:0<=x):(Int.gcd x 0:Int)=x:=by rw[Int.gcd_zero_right];omega
def LJ(x y:Int):Int.gcd (x.natAbs:Int) (y.natAbs:Int)=Int.gcd x y:=by simp[Int.gcd]
def qq(w:I)(G:Nat)(g:Nat)(W:I):Prop:=
 ∃x y:Int,0<=x/\0<=y/\Int.gcd x y=G/\g=y.toNat/\Lm Uc x/\Lm Uc y/\Ba w W/\NB W w.heap.size x/\NB W (w.heap.size+1) y/\
  W.heap[w.heap.size+1+1]?=V (J #[Z X 0,O Y 0 0] 66 (0,0))
def qq.ext{w W W':I}{G g:Nat}(h:qq w G g W)(k:Ba W W'):qq w G g W':=by obtain⟨x,y,b,c,d,e,f,h6,i,j,l,a⟩:=h;exact⟨x,y,b,c,d,e,f,h6,i.trans k,j.ext k,l.ext k,k.e a⟩
def tQ(b:I)(G:Nat)(t5 a:C)(W:I):Prop:=
 ∃u v:Int,t5=Z X u/\a=Z X v/\0<=u/\0<=v/\u<=10000000000000000/\v<=10000000000000000/\Int.gcd u v=G/\Ba b W
def JJ(w:I)(va vb:C)(na nb:Int)(ha:xd w va na)(hb:xd w vb nb)(aw:Lm Uc na)(az:Lm Uc nb):Calls Tryz.prog 194 #[va,vb] w (Ih w (Int.gcd na nb:Int)):=by
 obtain⟨s,a,m,c,rfl,hs⟩:=ha.j;obtain⟨s',a',m',c',rfl,aK⟩:=hb.j;obtain⟨G,hG⟩:=gX (Int.gcd na nb);rw[hG];have HG:=Aa hG;have aF:=Aa aw;have aG:=Aa az;clear hs aK hG aw az;go_in;go_wp2;obtain⟨W0,d⟩:=gX (((w.alloc (J #[Z X s,O a m c] 66)).alloc (J #[Z X s',O a' m' c'] 66)).alloc (J #[Z X 0,O Y 0 0] 66));have X0:Ba w W0:=by rw[<-d];exact(((eR w).alloc _).alloc _).alloc _
 have aC:NB W0 w.heap.size na:=by rw[<-d];exact(NB.new (W0:=w) ha rfl).ext (((eR _).alloc _).alloc _)
 have aD:NB W0 (w.heap.size+1) nb:=by rw[<-d];exact(NB.new (W0:=w.alloc (J #[Z X s,O a m c] 66)) (hb.ext ((eR _).alloc _)) sM).ext ((eR _).alloc _)
 have ak:W0.heap[w.heap.size+1+1]?=V (J #[Z X 0,O Y 0 0] 66 (0,0)):=by rw[<-d];exact Ec _ _ _ sM
 have p0:W0.cell? ⟨w.heap.size,0,Y⟩=V (Z X s):=by rw[<-d];clear d;go_simp
 have p1:W0.cell? ⟨w.heap.size,1,Y⟩=V (O a m c):=by rw[<-d];clear d;go_simp
 have q0:W0.cell? ⟨w.heap.size+1,0,Y⟩=V (Z X s'):=by rw[<-d];clear d;go_simp
 have q1:W0.cell? ⟨w.heap.size+1,1,Y⟩=V (O a' m' c'):=by rw[<-d];clear d;go_simp
 have f0:W0.frozen? ⟨w.heap.size,0,Y⟩=false:=by rw[<-d];clear d;go_simp
 have f1:W0.frozen? ⟨w.heap.size,1,Y⟩=false:=by rw[<-d];clear d;go_simp
 have f2:W0.frozen? ⟨w.heap.size+1,0,Y⟩=false:=by rw[<-d];clear d;go_simp
 have f3:W0.frozen? ⟨w.heap.size+1,1,Y⟩=false:=by rw[<-d];clear d;go_simp
 have z0:=Gb ak;have z1:w.heap.size<W0.heap.size:=oM;have z2:w.heap.size+1<W0.heap.size:=oM;rw[d];clear d;refine Nh (fun i=>decide (3<i)) (Da [(⟨w.heap.size,0,Y⟩,Z X s),(⟨w.heap.size,1,Y⟩,O a m c),(⟨w.heap.size+1,0,Y⟩,Z X s'),(⟨w.heap.size+1,1,Y⟩,O a' m' c')]) kM ?_ (fun f=>?_)
 ·exact cA
 refine Sf (i:=0) ?_;refine Sf (i:=2) ?_;refine Jc (i:=1) fun K k=>?_;go_simp;(with_reducible refine cM (SB _ (M #[Z X s,O a m c]) na (ha.ext X0.drew)) ?_);rintro e w1 ⟨r1,rfl,o,S⟩;obtain⟨s1,a1,m1,c1,rfl,-⟩:=o.j;go_wp2;refine kO k (fun _=>cE f S) (fun f=>?_);clear k K;replace f:=f rfl;refine Jc (i:=3) fun K k=>?_;go_simp;(with_reducible refine cM (SB _ (M #[Z X s',O a' m' c']) nb (hb.ext (X0.drew.trans S))) ?_);rintro e w2 ⟨r2,rfl,n,ad⟩;obtain⟨s2,a2,m2,c2,rfl,-⟩:=n.j;go_wp2;refine kO k (fun _=>cE f ad) (fun f=>?_);clear k K;replace f:=f rfl;have X2:Ba W0 w2:=(eR W0).drew.trans (S.trans ad);have y1:w.heap.size<w2.heap.size:=X2.lt z1;have y2:w.heap.size+1<w2.heap.size:=X2.lt z2;obtain⟨aH,aI⟩:=X2.cells;refine Jc (i:=4) fun K k=>?_;go_simp;refine kO k (fun h=>nomatch h) (fun f=>?_);clear k K;refine Jc (i:=5) fun K k=>?_;go_simp;refine kO k (fun h=>nomatch h) (fun f=>?_);clear k K;refine Kb kM ?_ _;have P:=aC.ext X2;have af:=aD.ext X2;have aE:=X2.e ak;have aq:=X0.trans X2;go_wp2;go_loopg [7] ((nb.natAbs:Int).toNat) (fun g _ W=>qq w G g W)
 case atStart =>
  refine⟨(na.natAbs:Int),(nb.natAbs:Int),by omega,by omega,by rw[LJ,HG.o],rfl,aF.o.abs,aG.o.abs,?_,?_,?_,?_⟩
  ·exact(((aq.set (p:=⟨w.heap.size,0,Y⟩) sM _).set (p:=⟨w.heap.size,1,Y⟩) sM _).set (p:=⟨w.heap.size+1,0,Y⟩) sM _).set (p:=⟨w.heap.size+1,1,Y⟩) sM _
  ·exact((P.put (o.ext ad)).other (p:=⟨w.heap.size+1,0,Y⟩) sM ((af.not.set _ _).set _ _) _).other (p:=⟨w.heap.size+1,1,Y⟩) sM (((af.not.set _ _).set _ _).set _ _) _
  ·exact((af.other (p:=⟨w.heap.size,0,Y⟩) sM P.not _).other (p:=⟨w.heap.size,1,Y⟩) sM (P.not.set _ _) _).put (n.keep (((Ia.refl _ w2).x P.not _).x (P.not.set _ _) _))
  ·rw[bS _ _ _ _ sM,bS _ _ _ _ sM,bS _ _ _ _ dO,bS _ _ _ _ dO];exact aE
 case round =>
  clear P af aE aq aH aI X2 y1 y2 o n S ad aC aD ak p0 p1 q0 q1 f0 f1 f2 f3 z0 z1 z2 X0 f HG;obtain⟨x,y,ac,aM,hG,rfl,ar,au,hx,ai,aj,l⟩:=hrel;have HG:=Aa hG;have am:=Aa ar;have t:=Aa au;have an:=Aa ai;have ao:=Aa aj;obtain⟨sx,ax,mx,cx,aL,x0,x1,a4,a6,x2,aa⟩:=ai.rd;obtain⟨sy,ay,my,cy,ab,y0,y1,a7,a8,y2,z⟩:=aj.rd;have r0:=Ca l (i:=0) (u:=Z X 0) rfl;have r1:=Ca l (i:=1) (u:=O Y 0 0) rfl;have aZ:=Ua l 0;have a0:=Ua l 1;have rz:=Gb l;have r:=Aa l;clear hG ar au ai aj l aL;by_cases aO:y=0
  ·subst aO;obtain rfl:sy=0:=by rw[ab];rfl
   clear ab;go_wp2;refine bR (v:=M #[Z X sx,O ax mx cx]) (by simp[results,Tryz.results194,go_sem,rz,r0,r1]) rfl ⟨_,rfl,?_,eA⟩;rw[<-HG.o,JD ac];exact aa.keep (Lo r.o _ _)
  ·have q:0<y:=oM;obtain rfl:sy=1:=by rw[ab];exact Int.sign_eq_one_of_pos q
   clear ab;by_cases aV:mx<=4
   ·by_cases aW:my<=4
    ·obtain⟨xs,xl,xi,xc,xv⟩:=aa.open;obtain⟨ys,yl,yi,yc,yv⟩:=z.open;have bx:x<10000000000000000:=by
      have h1:=(Gi nk xc.1).2;have h2:=Im (b:=C4) dM (show xs.length<=4 by omega);have h3:C4 ^ 4=10000000000000000:=dM;omega
     have bY:y<10000000000000000:=by
      have h1:=(Gi nk yc.1).2;have h2:=Im (b:=C4) dM (show ys.length<=4 by omega);have h3:C4 ^ 4=10000000000000000:=dM;omega
     clear xl xi xc xv yl yi yc yv;go_wp2;go_region_held3 (fun W=>W.cell? ⟨w.heap.size,0,Y⟩=V (Z X sx)/\W.cell? ⟨w.heap.size,1,Y⟩=V (O ax mx cx)/\W.cell? ⟨w.heap.size+1,0,Y⟩=V (Z X 1)/\W.cell? ⟨w.heap.size+1,1,Y⟩=V (O ay my cy)) ((repeat' (with_reducible refine And.intro ?_ ?_))<;>(first|(go_simp;done)|(refine S.d ?_;go_simp;done))) (first|(go_at_call 141;(with_reducible refine(QD _ (M #[Z X sx,O ax mx cx]) x ?_ oM oM).mono ?_);(refine aa.ext ?_;exact(eR wr).drew);rintro e w8 ⟨rfl,T⟩;obtain⟨aR,aT⟩:=oo T;(have z8:w.heap.size<w8.heap.size:=T.lt x2);(have aQ:w.heap.size+1<w8.heap.size:=T.lt y2))|(go_at_call 141;(with_reducible refine(QD _ (M #[Z X 1,O ay my cy]) y ?_ oM oM).mono ?_);(refine z.ext ?_;exact(eR wr).drew.trans T);rintro e w9 ⟨rfl,ae⟩;obtain⟨aS,aU⟩:=oo ae;(have z9:w.heap.size<w9.heap.size:=ae.lt z8);(have a9:w.heap.size+1<w9.heap.size:=ae.lt aQ)))
     all_goals go_wp2
     have X9:Ba wr w9:=(eR wr).drew.trans (T.trans ae);have Q:=X9.e r.o;obtain⟨wo,rfl⟩:∃wo:I,wo=wr:=⟨_,rfl⟩;go_loopw [5,6] (tQ w9 G) (fun _ t6 _=>(intOf t6).toNat)
     case atStart=>exact⟨x,y,rfl,rfl,ac,aM,by omega,by omega,HG.o,eR _⟩
     case round =>
      obtain⟨u,v,rfl,rfl,u0,v0,u1,v1,hG,Xi⟩:=hrel;have al:=Aa hG;clear hG;by_cases hv:v=0
      ·subst hv;(have e:u=(G:Int):=by rw[<-al.o,JD u0]);have t0:=Ca (Xi.e Q) (i:=0) (u:=Z X 0) rfl;have t1:=Ca (Xi.e Q) (i:=1) (u:=O Y 0 0) rfl;have a3:=Ua (Xi.e Q) 0;have Wd:=Ua (Xi.e Q) 1;have tz:=Gb (Xi.e Q);have XF:Ba w wr:=hx.trans (X9.trans Xi);have E:=Aa e;clear e;go_wp2_with(go_at_call 96;(with_reducible refine(Pn _ u oM oM).mono ?_);rintro e R ⟨r5,rfl,aA,j⟩;obtain⟨s5,a5,m5,c5,rfl,-⟩:=aA.j;obtain⟨ah,av⟩:=j.cells);refine bR (v:=M #[Z X s5,O a5 m5 c5]) (by simp[results,Tryz.results194,go_sem,ah,tz,t0,t1]) rfl ⟨_,rfl,?_,eA⟩;rw[<-E.o];exact aA.keep (Lo (j.e (Xi.e Q)) _ _)
      ·(have aX:(v != 0)=true:=by simpa using hv);have aB:0<v:=oM;obtain⟨rm,aJ⟩:=gX (Int.tmod u v);(have ag:rm=u%v:=by rw[<-aJ,Int.tmod_eq_emod_of_nonneg u0]);have k1:=Int.emod_lt_of_pos u aB;have k2:=Int.emod_nonneg u (show v≠0 by omega);have r9:0<=rm:=oM;have r8:rm<v:=oM;have ap:=Aa ag;(have aY:(v==0)=false:=by simpa using hv);clear ag k1 k2;go_wp2;go_quiet (fail);go_wp2;go_roundw
       case rel=>exact⟨v,rm,rfl,rfl,by omega,r9,v1,by omega,by rw[ap.o,Ew u0 aB,al.o],eA⟩
       case measure=>simp[intOf];omega
    ·have h4:¬(my:Int)<=4:=oM;have h5:(mx:Int)<=4:=oM;go_wp2_with(go_at_call 142;(with_reducible refine(Rt _ (M #[Z X sx,O ax mx cx]) (M #[Z X 1,O ay my cy]) x y aa z am.o t.o oM).mono ?_);rintro e R ⟨r1,r2,rfl,o,n,j⟩;obtain⟨s1,a1,m1,c1,rfl,-⟩:=o.j;obtain⟨s2,a2,m2,c2,rfl,-⟩:=n.j;obtain⟨ah,av⟩:=j.cells;(have z5:w.heap.size<R.heap.size:=j.lt x2);(have aP:w.heap.size+1<R.heap.size:=j.lt y2));refine Nh (fun i=>decide (2<i)) (Da [(⟨w.heap.size+1,0,Y⟩,Z X 1),(⟨w.heap.size+1,1,Y⟩,O ay my cy),(⟨R.heap.size+1,0,Y⟩,Z X s2),(⟨R.heap.size+1,1,Y⟩,O a2 m2 c2)]) kM ?_ (fun f=>?_)
     ·exact cA
     refine sN 0 ?_
     (iterate 2 refine Yh ?_);refine oN ?_;refine Jc (i:=2) fun K k=>?_;go_simp;refine kO k (fun _=>?_) (fun f=>?_)
     ·exact cA
     clear k K;replace f:=f rfl;refine Jc (i:=3) fun K k=>?_;go_simp;refine kO k (fun h=>nomatch h) (fun f=>?_);clear k K;refine Kb kM ?_ _;go_wp2;go_roundg ((x%y).toNat)
     case measure=>have:=Int.emod_lt_of_pos x q;have:=Int.emod_nonneg x (show y≠0 by omega);omega
     case rel =>
      have k1:=Int.emod_lt_of_pos x q;have k2:=Int.emod_nonneg x (show y≠0 by omega);have nx:=an.o.ext j;have ny:=ao.o.ext j;refine qq.ext ?_ (((eR _).alloc _).alloc _).drew;refine⟨y,x%y,by omega,k2,by rw[Ew ac q,HG.o],rfl,t.o,?_,?_,?_,?_,?_⟩
      ·have:=t.o;unfold Lm at *;omega
      ·exact((((hx.trans j).set (p:=⟨w.heap.size,0,Y⟩) sM _).set (p:=⟨w.heap.size,1,Y⟩) sM _).set (p:=⟨w.heap.size+1,0,Y⟩) sM _).set (p:=⟨w.heap.size+1,1,Y⟩) sM _
      ·exact((nx.put (z.ext j)).other (p:=⟨w.heap.size+1,0,Y⟩) sM ((ny.not.set _ _).set _ _) _).other (p:=⟨w.heap.size+1,1,Y⟩) sM (((ny.not.set _ _).set _ _).set _ _) _
      ·refine((ny.other (p:=⟨w.heap.size,0,Y⟩) sM nx.not _).other (p:=⟨w.heap.size,1,Y⟩) sM (nx.not.set _ _) _).put (n.keep (((Ia.refl _ R).x nx.not _).x (nx.not.set _ _) _))
      ·rw[bS _ _ _ _ sM,bS _ _ _ _ sM,bS _ _ _ _ dO,bS _ _ _ _ dO];exact j.e r.o
   ·have h5:¬(mx:Int)<=4:=oM;go_wp2_with(go_at_call 142;(with_reducible refine(Rt _ (M #[Z X sx,O ax mx cx]) (M #[Z X 1,O ay my cy]) x y aa z am.o t.o oM).mono ?_);rintro e R ⟨r1,r2,rfl,o,n,j⟩;obtain⟨s1,a1,m1,c1,rfl,-⟩:=o.j;obtain⟨s2,a2,m2,c2,rfl,-⟩:=n.j;obtain⟨ah,av⟩:=j.cells;(have z5:w.heap.size<R.heap.size:=j.lt x2);(have aP:w.heap.size+1<R.heap.size:=j.lt y2));refine Nh (fun i=>decide (2<i)) (Da [(⟨w.heap.size+1,0,Y⟩,Z X 1),(⟨w.heap.size+1,1,Y⟩,O ay my cy),(⟨R.heap.size+1,0,Y⟩,Z X s2),(⟨R.heap.size+1,1,Y⟩,O a2 m2 c2)]) kM ?_ (fun f=>?_)
    ·exact cA
    refine sN 0 ?_
    (iterate 2 refine Yh ?_);refine oN ?_;refine Jc (i:=2) fun K k=>?_;go_simp;refine kO k (fun _=>?_) (fun f=>?_)
    ·exact cA
    clear k K;replace f:=f rfl;refine Jc (i:=3) fun K k=>?_;go_simp;refine kO k (fun h=>nomatch h) (fun f=>?_);clear k K;refine Kb kM ?_ _;go_wp2;go_roundg ((x%y).toNat)
    case measure=>have:=Int.emod_lt_of_pos x q;have:=Int.emod_nonneg x (show y≠0 by omega);omega
    case rel =>
     have k1:=Int.emod_lt_of_pos x q;have k2:=Int.emod_nonneg x (show y≠0 by omega);have nx:=an.o.ext j;have ny:=ao.o.ext j;refine qq.ext ?_ (((eR _).alloc _).alloc _).drew;refine⟨y,x%y,by omega,k2,by rw[Ew ac q,HG.o],rfl,t.o,?_,?_,?_,?_,?_⟩
     ·have:=t.o;unfold Lm at *;omega
     ·exact((((hx.trans j).set (p:=⟨w.heap.size,0,Y⟩) sM _).set (p:=⟨w.heap.size,1,Y⟩) sM _).set (p:=⟨w.heap.size+1,0,Y⟩) sM _).set (p:=⟨w.heap.size+1,1,Y⟩) sM _
     ·exact((nx.put (z.ext j)).other (p:=⟨w.heap.size+1,0,Y⟩) sM ((ny.not.set _ _).set _ _) _).other (p:=⟨w.heap.size+1,1,Y⟩) sM (((ny.not.set _ _).set _ _).set _ _) _
     ·refine((ny.other (p:=⟨w.heap.size,0,Y⟩) sM nx.not _).other (p:=⟨w.heap.size,1,Y⟩) sM (nx.not.set _ _) _).put (n.keep (((Ia.refl _ R).x nx.not _).x (nx.not.set _ _) _))
     ·rw[bS _ _ _ _ sM,bS _ _ _ _ sM,bS _ _ _ _ dO,bS _ _ _ _ dO];exact j.e r.o
