/- Part 28. -/
import Derived.Test.YtjnjpagegkcgfaaGreatDoorCosA26
import Derived.Test.YtjnjpagegkcgfaaGreatDoorCosA18
set_option maxRecDepth 1000000
set_option maxHeartbeats 16000000
set_option linter.unusedSimpArgs false
set_option linter.unusedVariables false
open Go.Value renaming slice->O,bool->Z,int->V
open Option renaming none->Y,some->I
open Go.Obj renaming cells->X
namespace Go.Proofs.YtjnjpagegkcgfaaGreatDoor.Cop
section
open Go.RowKit Go.Shelf
attribute [local go_sem] Oper.semAt_some
theorem zj8{f:Rat->Rat}{a:List Rat}{o:Rat×Rat}{i:Nat}{x:Rat}(b:a[i]?=I x):reachN f a o (i+1)=if i=0 then reachStep f (reachN f a o i) x else reachCross f (reachStep f (reachN f a o i) x) (a.getD (i-1) 0) x:=by
 have e:a.getD i 0=x:=by rw[gD,b];rfl
 rw[show reachN f a o (i+1)=if i=0 then reachStep f (reachN f a o i) (a.getD i 0)else reachCross f (reachStep f (reachN f a o i) (a.getD i 0)) (a.getD (i-1) 0) (a.getD i 0)from rfl,e]
theorem zic(w:World)(v1 v2:Value)(s:Sp)(m:Int)(h1:IsPts w v1 s.over)(h2:IsPts w v2 s.under)(aY:SpOk s)(hp:Bd 104000 m)(aX:reachNo s m=false) :
  Calls Tryz.prog 143 #[spc s v1 v2,V .i64 m] w (RetRc w (reachP s m)):=by
 have bL:Rb 1 (leastR s).1:=zas aY _ (by unfold leastR;exact(zaM (gapR s) (zbs s)).1);have HT:=hd9 (fun(W:World)(hW:Ext w W)=>zfS W v1 v2 s (h1.ext' hW) (h2.ext' hW) aY);have HG:=hd9 (fun(W:World)(hW:Ext w W)(vx:Value)(x:Rat)(hx:IsR W vx x)(hb:Rb 1 x)=>zmf W s v1 v2 vx x (h1.ext' hW) (h2.ext' hW) aY hx hb);have Hq:=hd9 (zas aY);have bx:=hd9 aY;have HS:=hd9 (fun(W:World)(hW:Ext w W)=>zcb W v1 v2 s (h1.ext' hW) (h2.ext' hW) aY);obtain⟨a1,m1,rfl⟩:=h1.form;obtain⟨a2,m2,rfl⟩:=h2.form;obtain⟨n1,f1⟩:=gX s.over.length;obtain⟨n2,f2⟩:=gX s.under.length;obtain⟨lo,cc⟩:=gX s.lo;obtain⟨hi,cb⟩:=gX s.hi;have c9:=hd9 (show Rb 23 (leastR s).2 by obtain⟨j1,j2⟩:=zaM (gapR s) (zbs s);unfold leastR;rw[j2];exact Rb.gap (zas aY _ j1) aY);have Hp:=hd9 hp;have cL : -9223372036854775808<=m:=by unfold Bd at hp;omega
 have cN:m<=9223372036854775807:=by unfold Bd at hp;omega
 have HC:=hd9 (fun(W:World)(va vb:Value)(ha:IsR W va (leastR s).2)(hb:IsR W vb (m:Rat))=>zaE W va vb _ _ ha hb (zat c9.out oM) (zat (zjW (k:=1) Hp.out oM) oM));have hR:reachP s m=I (reachN (pinG s m) (stopsR s) ((leastR s).1,(leastR s).1) (stopsR s).length):=by unfold reachP;rw[if_neg (by simp[aX])]
 rw[hR];unfold reachNo at aX;obtain⟨q1,ch⟩:=gX ((leastR s).1);obtain⟨q2,cO⟩:=gX ((leastR s).2);have dW:=hd9 ch;unfold spc at HS HT HG ⊢;rw[cO]at aX HC c9;rw[ch,cO]at HS;rw[ch]at bL ⊢;have cq:=hd9 bL;clear bL;obtain⟨qs,ds⟩:=gX (stopsR s);rw[ds]at HT Hq ⊢;obtain⟨R,hR⟩:=gX (RetRc w (I (reachN (pinG s m) qs (q1,q1) qs.length)));rw[hR];have HR:=hd9 hR;simp only[f1,f2,cc,cb]at HS HT HG ⊢;clear h1 h2 aY f1 f2 hR ch cO hp ds;go_enter Tryz.func143,Tryz.ntmps143
 go_wp2_with(((go_at_call 59;(with_reducible refine(HS.out _ ?_).mono ?_);exact eA;rintro e w1 ⟨r1,r2,rfl,dt,bb,aE⟩;obtain⟨a4,m4,c4,s4,b4,n4,k4,rfl⟩:=dt.form;obtain⟨a5,m5,c5,s5,b5,n5,k5,rfl⟩:=bb.form;obtain⟨⟨d8,ef⟩,fz,fA,fB⟩:=cK3 w aE)))
 have K0:=aE.heapS ((((eR _).alloc _).alloc _).heapS (aN w (X #[O a1 n1 m1,O a2 n2 m2,V .i64 lo,V .i64 hi] 138)));obtain⟨W8,aV⟩:=gX (((w1.alloc (X #[O a4 m4 c4,Z s4,O b4 n4 k4] 63)).alloc (X #[O a5 m5 c5,Z s5,O b5 n5 k5] 63)));have ba:Ext w1 W8:=by rw[<-aV];exact((eR _).alloc _).alloc _
 have dh:Ext w W8:=(((((eR w).alloc _).alloc _).alloc _).trans aE).trans ba;have g1:RB W8 w1.heap.size q1:=by rw[<-aV];exact(RB.new dt rfl).ext ((eR _).alloc _)
 have g2:RB W8 (w1.heap.size+1) q2:=by rw[<-aV];exact RB.new (bb.ext ((eR _).alloc _)) sM
 have g3:RB W8 (w.heap.size+1) 0:=(((RB.new (IsR.zero _) sM).ext ((eR _).alloc _)).ext aE).ext ba;have g4:RB W8 (w.heap.size+1+1) 0:=((RB.new (IsR.zero _) sM).ext aE).ext ba;have zW:w1.heap.size+1<W8.heap.size:=by rw[<-aV];simp
 have d2:=qcB (show W8.heap[w1.heap.size+1]?=I (X #[O a5 m5 c5,Z s5,O b5 n5 k5] 63 (0,0)) by rw[<-aV];exact qhA _ _ _ sM) (i:=0) (u:=O a5 m5 c5) rfl;have d3:=qcB (show W8.heap[w1.heap.size+1]?=I (X #[O a5 m5 c5,Z s5,O b5 n5 k5] 63 (0,0)) by rw[<-aV];exact qhA _ _ _ sM) (i:=1) (u:=Z s5) rfl;have d4:=qcB (show W8.heap[w1.heap.size+1]?=I (X #[O a5 m5 c5,Z s5,O b5 n5 k5] 63 (0,0)) by rw[<-aV];exact qhA _ _ _ sM) (i:=2) (u:=O b5 n5 k5) rfl;have HX:=hd9 ba;have dR:=hd9 dh;rw[aV];obtain⟨s1,du⟩:=gX w1.heap.size;simp only[du]at *;clear aV d8 ef aE ba dh HS du;have K8:=HX.out.heapS K0;clear K0;obtain⟨k,hk⟩:=gX q2.num.sign;have dN:=hd9 (fun(W:World)(v:Value)(h:IsR W v q2)=>hk▸zbz W v q2 h);rw[hk]at aX;clear hk;have aD:¬k<0:=fun h=>by simp[h]at aX
 have hd:decide (k<0)=false:=by simp[aD]
 rw[hd,Bool.false_or]at aX;obtain⟨c,hc⟩:=gX (rcmp q2 (m:Rat));rw[hc]at aX HC;clear hc;have d7:¬0<c:=by simpa using aX
 refine wp_region_held_drew (S:=CellL [(⟨s1+1,0,Y⟩,O a5 m5 c5),(⟨s1+1,1,Y⟩,Z s5),(⟨s1+1,2,Y⟩,O b5 n5 k5)]) kM cA (fun g=>?_);have E0:Ext w1 W8.drew:=HX.out.trans (eR W8).drew;refine tk1 (i:=0) ?_;refine cl1 (i:=1) fun K l=>?_
 go_simp
 (with_reducible refine cM (dN.out _ _ (bb.ext E0)) ?_)
 rintro e w3 ⟨rfl,ag⟩
 skip
 go_wp2_with fail
 refine kO l (cE g ag) (fun g=>?_);clear l K;refine sN 2 ?_
 iterate 4
  refine tkn ?_
 refine oN ?_;refine cl1 (i:=6) fun K l=>?_
 go_simp
 (with_reducible refine cM (zaP _ m cL cN) ?_)
 rintro e w4 ⟨r4,rfl,aZ,aQ⟩;obtain⟨a6,m6,c6,s6,b6,n6,k6,rfl⟩:=aZ.form
 go_wp2_with fail
 refine kO l (cE g aQ) (fun g=>?_);clear l K;refine cl1 (i:=7) fun K l=>?_
 go_simp
 (with_reducible refine cM (HC.out _ _ _ (bb.ext (E0.trans (ag.trans aQ))) aZ) ?_)
 rintro e w5 ⟨rfl,aR⟩
 skip
 go_wp2_with fail
 refine kO l (cE g aR) (fun g=>?_);clear l K;refine sN 8 ?_
 iterate 2
  refine tkn ?_
 refine oN ?_;refine wpAnyH_done kM ?_ _;have X3:Ext W8 w5:=((eR W8).drew).trans (ag.trans (aQ.trans aR));have j1:=g1.ext X3;have j3:=g3.ext X3;have j4:=g4.ext X3;have K5:=X3.heapS K8;have zX:=X3.size;have X0:=dR.out.trans X3;clear g K8 g1 g2 g3 g4 d2 d3 d4 ag aQ aR aZ E0 hd aD d7 aX;have cZ:=hd9 K5;have dQ:=hd9 X0;go_wp2;obtain⟨pa,pm,ab,ps,aa,ad,ac,p0,p1,p2,_,_,_,pz,hp⟩:=j1.rd;obtain⟨_,_,_,_,_,_,_,x0,x1,x2,aj,ak,al,xz,_⟩:=j3.rd;obtain⟨_,_,_,_,_,_,_,y0,y1,y2,am,an,ao,yz,_⟩:=j4.rd;refine wp_region_held_drew (S:=CellL [(⟨s1,0,Y⟩,O pa pm ab),(⟨s1,1,Y⟩,Z ps),(⟨s1,2,Y⟩,O aa ad ac)]) kM cA (fun g=>?_);refine sN 0 ?_
 iterate 2
  refine tkn ?_
 refine oN ?_
 have cJ:∀b,b<s1->∀q∈[((⟨s1,0,Y⟩:Addr),Value.slice pa pm ab),(⟨s1,1,Y⟩,Z ps),(⟨s1,2,Y⟩,O aa ad ac)],b≠q.1.block:=by
  intro b hb q hq;simp at hq
  rcases hq with rfl|rfl|rfl<;>(dsimp only;omega)
 refine cl1 (i:=2) fun K l=>?_
 go_simp;refine kO l (CellL.set3d g (cJ _ oM) _ _ _) (fun g=>?_);clear l K;refine cl1 (i:=3) fun K l=>?_
 go_simp;refine kO l (CellL.set3d g (cJ _ oM) _ _ _) (fun g=>?_);clear l K;refine wpAnyH_done kM ?_ _;obtain⟨W9,t⟩:=gX ((((((((w5.setCell ⟨w.heap.size+1,0,Y⟩ (O pa pm ab)).setCell ⟨w.heap.size+1,1,Y⟩ (Z ps)).setCell ⟨w.heap.size+1,2,Y⟩ (O aa ad ac)).setCell ⟨w.heap.size+1+1,0,Y⟩ (O pa pm ab)).setCell ⟨w.heap.size+1+1,1,Y⟩ (Z ps)).setCell ⟨w.heap.size+1+1,2,Y⟩ (O aa ad ac))).drew)
 have dg:Ext w W9/\w.heap.size+1+1+1<=W9.heap.size/\W9.heap[w.heap.size]?=I (X #[O a1 n1 m1,O a2 n2 m2,V .i64 lo,V .i64 hi] 138 (0,0))/\RB W9 (w.heap.size+1) q1/\RB W9 (w.heap.size+1+1) q1:=by
  rw[<-t];exact zf7 dQ.out oM cZ.out j3 j4 hp rfl rfl
 have z:=hd9 dg;obtain⟨X9,z9,K9,-,-⟩:=dg;have cj:=qcB K9 (i:=0) (u:=O a1 n1 m1) rfl;have ck:=qcB K9 (i:=1) (u:=O a2 n2 m2) rfl;have cl:=qcB K9 (i:=2) (u:=V .i64 lo) rfl;have cm:=qcB K9 (i:=3) (u:=V .i64 hi) rfl;rw[t];clear t g cJ p0 p1 p2 x0 x1 x2 aj ak al y0 y1 y2 am an ao hp j1 j3 j4 K5 zX X0 X3 cZ K9
 go_wp2_with(((go_at_call 105;(with_reducible refine(HT.out _ X9).mono ?_);rintro e w6 ⟨vq,rfl,bq,r⟩;obtain⟨a7,c7,rfl⟩:=bq.rs.form)))
 obtain⟨n,hn⟩:=gX qs.length;have cf:=bq.rs.le;unfold maxLen at cf;rw[hn]at cf bq HR ⊢;have gl:n<=9223372036854775807:=oM
 have Hn:=hd9 hn;clear hn
 go_loopg [38] n (RcI w s (O a1 n1 m1) (O a2 n2 m2) (O a7 n c7) m qs (q1,q1))
 case atStart =>
  obtain⟨h1,h2,h3,h4,h5⟩:=z.out;have gm:=r.size
  exact⟨0,by omega,rfl,by rw[Hn.out];rfl,h1.trans r,by omega,by rw[cc,cb];exact r.heapS h3,h4.ext r,h5.ext r,by
   obtain⟨cs,e1,e2,e3⟩:=bq;exact⟨cs,e1.mono oM,e2,e3⟩⟩
 case round =>
  obtain⟨i,ek,rfl,rfl,hI⟩:=hrel;rw[Hn.out]at ek
  by_cases en:i<n
  ·obtain⟨y1,y2,y3,y4,y5,y6⟩:=hI
   have HI:=hd9 (show RcW w s (O a1 n1 m1) (O a2 n2 m2) (O a7 n c7) qs (reachN (pinG s m) qs (q1,q1) i) wr from⟨y1,y2,y3,y4,y5,y6⟩);obtain⟨x,hx⟩:∃x,qs[i]?=I x:=⟨qs[i]'(by rw[Hn.out];exact en),gE _⟩;have aO:=hd9 (Hq.out x (lM hx));have Hx:=hd9 hx;obtain⟨b7,o7,xa,xm,xc,xs,eE,eG,eF,rfl,d6,dy,eH,eI,eJ⟩:=y6.rs.at' hx;rw[cc,cb]at y3;have cj:=qcB y3 (i:=0) (u:=O a1 n1 m1) rfl;have ck:=qcB y3 (i:=1) (u:=O a2 n2 m2) rfl;have cl:=qcB y3 (i:=2) (u:=V .i64 lo) rfl;have cm:=qcB y3 (i:=3) (u:=V .i64 hi) rfl;have zz:w.heap.size<wr.heap.size:=oM
   have Y1:=hd9 y1;have da:=hd9 dy;have bw:=hd9 (show Rb limR (gapR s x)/\Rb limR (m:Rat)from⟨zat (Rb.gap aO.out bx.out) oM,zat (zjW (k:=1) Hp.out oM) oM⟩);have dV:=hd9 (show (gapR s x-(m:Rat))=pinG s m x from rfl);clear y1 y3 y4 y5 y6 z bq cf hx dy;obtain⟨kg,bK⟩:=gX ((pinG s m x).num.sign);have c8:=hd9 (fun(W:World)(v:Value)(h:IsR W v (pinG s m x))=>bK▸zbz W v _ h);have el:=zeD (pinG s m x);rw[bK]at el;obtain⟨oi,cK⟩:=gX (reachN (pinG s m) qs (q1,q1) i);have hN:=zj8 (f:=pinG s m) (o:=(q1,q1)) Hx.out;rw[cK]at hN HI;obtain⟨o1,cg⟩:=gX (reachStep (pinG s m) oi x);rw[cg]at hN;have HN:=hd9 hN;have ci:=cg.symm;unfold reachStep at ci;rw[bK]at ci;have b3:=hd9 (show Rb 300 oi.1/\Rb 300 oi.2 by rw[<-cK];exact Rb.reach_n ⟨cq.out.up dM,cq.out.up dM⟩ Hq.out (fun q hq=>Rb.pin_g (Hq.out q hq) bx.out Hp.out) i (by rw[Hn.out];omega));have ca:=hd9 ci;have cp:=hd9 (show Rb 300 o1.1/\Rb 300 o1.2 by rw[<-cg];unfold reachStep;split;exact Rb.wid b3.out (aO.out.up dM);exact b3.out);have dS:=hd9 bK;clear bK cK ci cg hN;have cz:=hd9 (show ∀q∈[oi.1,x],Rb limR q from fun q hq=>by rcases List.mem_cons.1 hq with rfl|hq;exact zat b3.out.1 oM;rw[List.mem_singleton.1 hq];exact zat aO.out oM);have cB:=hd9 (show ∀q∈[oi.2,x],Rb limR q from fun q hq=>by rcases List.mem_cons.1 hq with rfl|hq;exact zat b3.out.2 oM;rw[List.mem_singleton.1 hq];exact zat aO.out oM)
   go_upto_if 51 with (first|(go_at_call 133;(with_reducible refine(HG.out _ ?_ (.agg #[O xa xm xc,Z xs,O eE eG eF]) x ?_ aO.out).mono ?_);(refine Y1.out.trans ?_;exact eA);(refine da.out.ext ?_;exact eA);rintro e w2 ⟨r2,rfl,bb,bW⟩;obtain⟨fG,gq,f8,gK,f0,gw,gn,rfl⟩:=bb.form;obtain⟨⟨d9,eg⟩,fC⟩:=cK1 w bW)|(go_at_call 85;(with_reducible refine(zaP _ m cL cN).mono ?_);rintro e w3 ⟨r3,rfl,cP,ag⟩;obtain⟨fH,gr,f9,gL,f3,gx,go,rfl⟩:=cP.form;obtain⟨⟨eb,eh⟩,fD⟩:=cK1 w ag)|(go_at_call 115;(with_reducible refine(zb9 _ _ _ (gapR s x) (m:Rat) (bb.ext ag) cP bw.out.1 bw.out.2).mono ?_);rintro e w4 ⟨r4,rfl,aZ,aQ⟩;rw[dV.out]at aZ;obtain⟨fI,gs,ga,gM,f4,gy,gp,rfl⟩:=aZ.form;obtain⟨⟨ed,ei⟩,fE⟩:=cK1 w aQ)|(go_at_call 93;(with_reducible refine(c8.out _ _ (aZ.ext ?_)).mono ?_);exact eA;rintro e w5 ⟨rfl,aR⟩;obtain⟨⟨ee,ej⟩,fF⟩:=cK1 w aR))
   have ah:RB w5 wr.heap.size x:=(((((RB.new da.out rfl).ext bW).ext ag).ext aQ).ext ((eR _).alloc _)).ext aR;have ae:RB w5 w4.heap.size (pinG s m x):=(RB.new aZ rfl).ext aR;have X5:Ext wr w5:=(((((((eR wr).alloc _).trans bW).trans ag).trans aQ).alloc _).trans aR);have G:=HI.out.ext X5;obtain⟨bh,bI⟩:=gX w4.heap.size;obtain⟨aU,bH⟩:=gX wr.heap.size;rw[bI]at ae;rw[bH]at ah
   have ep:w.heap.size+1+1+1<=aU/\aU<bh/\bh<w5.heap.size:=by
    have q1:=bW.size;have q2:=ag.size;have q3:=aQ.size;have q4:=aR.size;simp only[wZ]at q1 q4;have q5:=HI.out.2.1;omega
   obtain⟨z1,z2,z3⟩:=ep;simp only[bH,bI];clear bW ag aQ aR bb cP aZ bH bI d9 eg eb eh ed ei ee ej eH eI eJ d6 cj ck cl cm zz
   go_cut [10,11,12] (Rc1 w s (O a1 n1 m1) (O a2 n2 m2) (O (I ⟨b7,o7,Y⟩) n c7) qs o1 i x (pinG s m x))
   case first =>
    by_cases hk:kg<=0
    ·go_wp2
     obtain⟨pa,pm,ab,ps,aa,ad,ac,p0,p1,p2,bY,bZ,b0,pz,bn⟩:=(G.2.2.2.1).rd;obtain⟨ea,em,ec,es,ax,az,ay,e0,e1,e2,bA,bB,bC,ez,bm⟩:=(G.2.2.2.2.1).rd;obtain⟨ua,um,uc,us,a0,a8,a3,u0,u1,u2,eu,ev,ew,uz,bc⟩:=(ah).rd;have D:=hd9 G;have b1:=hd9 (ah);have P:=hd9 ae;have bf:=hd9 bn;have be:=hd9 bm;have ai:=hd9 bc;clear G ah ae bn bm bc;have D0:Ext w5 w5.drew:=(eR _).drew;refine zae (fun i=>decide (7<i)) (CellL [(⟨w.heap.size+1,0,Y⟩,O pa pm ab),(⟨w.heap.size+1,1,Y⟩,Z ps),(⟨w.heap.size+1,2,Y⟩,O aa ad ac),(⟨w.heap.size+1+1,0,Y⟩,O ea em ec),(⟨w.heap.size+1+1,1,Y⟩,Z es),(⟨w.heap.size+1+1,2,Y⟩,O ax az ay),(⟨aU,0,Y⟩,O ua um uc),(⟨aU,1,Y⟩,Z us),(⟨aU,2,Y⟩,O a0 a8 a3)]) kM ?_ (fun g=>?_)
     ·exact cA
     refine sN 0 ?_
     iterate 2
      refine tun ?_
     refine oN ?_;refine sN 4 ?_
     iterate 2
      refine tun ?_
     refine oN ?_;refine callHU2 (i:=2) (j:=6) (fun K l=>?h1k1w1) (fun K l=>?h2k1w1)
     case h1k1w1 =>
      go_simp;refine kO l (fun _=>cE g ((eR _).alloc _)) (fun g=>?_);clear l K;have g:=g rfl;refine callHU2 (i:=3) (j:=6) (fun K l=>?h1k2w1) (fun K l=>?h2k2w1)
      case h1k2w1 =>
       go_simp
       (with_reducible refine cM (zb0 _ _ [oi.1,x] ((zbj w5 rfl bf.out ai.out).ext' (eR _).drew) cz.out) ?_)
       rintro e w6 ⟨r6,rfl,Q,r⟩;obtain⟨ap,aH,av,aL,ar,aJ,aF,rfl⟩:=Q.form
       go_wp2_with fail
       refine kO l (fun _=>cE g r) (fun g=>?_);clear l K;have g:=g rfl;have L:Ext w5 w6:=(((eR w5).alloc _).drew).trans r;refine cu1 (i:=6) fun K l=>?_
       go_simp;refine kO l (fun _=>cE g ((eR _).alloc _)) (fun g=>?_);clear l K;have g:=g rfl;refine cu1 (i:=7) fun K l=>?_
       go_simp
       (with_reducible refine cM (zbZ _ _ [oi.2,x] (zbj w6 rfl (be.out.ext L) (ai.out.ext L)) cB.out) ?_)
       rintro e w7 ⟨r7,rfl,T,p⟩;obtain⟨aq,aI,aw,aM,au,aK,aG,rfl⟩:=T.form
       go_wp2_with fail
       refine kO l (fun _=>cE g p) (fun g=>?_);clear l K;have g:=g rfl;obtain⟨_,_,_,_,_,_,_,x0,x1,x2,aj,ak,al,xz,_⟩:=((D.out.ext ((L.alloc _).trans p)).2.2.2.1).rd;obtain⟨_,_,_,_,_,_,_,y0,y1,y2,am,an,ao,yz,_⟩:=((D.out.ext ((L.alloc _).trans p)).2.2.2.2.1).rd;refine cu1 (i:=8) fun K l=>?_
       go_simp;refine kO l (fun h=>nomatch h) (fun g=>?_);clear l K;refine cu1 (i:=9) fun K l=>?_
       go_simp;refine kO l (fun h=>nomatch h) (fun g=>?_);clear l K;refine doneHU kM ?_ _;have z:=ze9 (i:=i) (D.out.ext ((L.alloc _).trans p)) ((Q.ext ((eR _).alloc _)).ext p) T z1 z2 (Nat.lt_of_lt_of_le z3 ((L.alloc _).trans p).size) (b1.out.ext ((L.alloc _).trans p)) (P.out.ext ((L.alloc _).trans p)) rfl rfl;obtain⟨W9,t⟩:=gX (((((((w7.setCell ⟨w.heap.size+1,0,Y⟩ (O ap aH av)).setCell ⟨w.heap.size+1,1,Y⟩ (Z aL)).setCell ⟨w.heap.size+1,2,Y⟩ (O ar aJ aF)).setCell ⟨w.heap.size+1+1,0,Y⟩ (O aq aI aw)).setCell ⟨w.heap.size+1+1,1,Y⟩ (Z aM)).setCell ⟨w.heap.size+1+1,2,Y⟩ (O au aK aG)));rw[t]at z ⊢;have z:=hd9 z;clear t x0 x1 x2 aj ak al y0 y1 y2 am an ao g;go_wp2;go_meet;rw[ca.out,if_pos hk];exact z.out
      case h2k2w1 =>
       go_simp;refine kO l (fun _=>cE g ((eR _).alloc _)) (fun g=>?_);clear l K;have g:=g rfl;refine cu1 (i:=3) fun K l=>?_
       go_simp
       (with_reducible refine cM (zb0 _ _ [oi.1,x] ((zbj w5 rfl bf.out ai.out).ext' ((eR _).alloc _).drew) cz.out) ?_)
       rintro e w6 ⟨r6,rfl,Q,r⟩;obtain⟨ap,aH,av,aL,ar,aJ,aF,rfl⟩:=Q.form
       go_wp2_with fail
       refine kO l (fun _=>cE g r) (fun g=>?_);clear l K;have g:=g rfl;have L:Ext w5 w6:=((((eR w5).alloc _).alloc _).drew).trans r;have R2:=(((zbj _ (b:=w5.heap.size+1) sM (be.out.ext ((eR w5).alloc (X #[O pa pm ab,Z ps,O aa ad ac,O ua um uc,Z us,O a0 a8 a3] 63))) (ai.out.ext ((eR w5).alloc _))).ext' (eR _).drew).ext' r);refine cu1 (i:=7) fun K l=>?_
       go_simp
       (with_reducible refine cM (zbZ _ _ [oi.2,x] R2 cB.out) ?_)
       rintro e w7 ⟨r7,rfl,T,p⟩;obtain⟨aq,aI,aw,aM,au,aK,aG,rfl⟩:=T.form
       go_wp2_with fail
       refine kO l (fun _=>cE g p) (fun g=>?_);clear l K;have g:=g rfl;obtain⟨_,_,_,_,_,_,_,x0,x1,x2,aj,ak,al,xz,_⟩:=((D.out.ext (L.trans p)).2.2.2.1).rd;obtain⟨_,_,_,_,_,_,_,y0,y1,y2,am,an,ao,yz,_⟩:=((D.out.ext (L.trans p)).2.2.2.2.1).rd;refine cu1 (i:=8) fun K l=>?_
       go_simp;refine kO l (fun h=>nomatch h) (fun g=>?_);clear l K;refine cu1 (i:=9) fun K l=>?_
       go_simp;refine kO l (fun h=>nomatch h) (fun g=>?_);clear l K;refine doneHU kM ?_ _;have z:=ze9 (i:=i) (D.out.ext (L.trans p)) (Q.ext p) T z1 z2 (Nat.lt_of_lt_of_le z3 (L.trans p).size) (b1.out.ext (L.trans p)) (P.out.ext (L.trans p)) rfl rfl;obtain⟨W9,t⟩:=gX (((((((w7.setCell ⟨w.heap.size+1,0,Y⟩ (O ap aH av)).setCell ⟨w.heap.size+1,1,Y⟩ (Z aL)).setCell ⟨w.heap.size+1,2,Y⟩ (O ar aJ aF)).setCell ⟨w.heap.size+1+1,0,Y⟩ (O aq aI aw)).setCell ⟨w.heap.size+1+1,1,Y⟩ (Z aM)).setCell ⟨w.heap.size+1+1,2,Y⟩ (O au aK aG)));rw[t]at z ⊢;have z:=hd9 z;clear t x0 x1 x2 aj ak al y0 y1 y2 am an ao g;go_wp2;go_meet;rw[ca.out,if_pos hk];exact z.out
     case h2k1w1 =>
      go_simp;refine kO l (fun _=>cE g ((eR _).alloc _)) (fun g=>?_);clear l K;have g:=g rfl;refine cu1 (i:=2) fun K l=>?_
      go_simp;refine kO l (fun _=>cE g ((eR _).alloc _)) (fun g=>?_);clear l K;have g:=g rfl;have R1:=((zbj _ (b:=w5.heap.size+1) sM (bf.out.ext ((eR w5).alloc (X #[O ea em ec,Z es,O ax az ay,O ua um uc,Z us,O a0 a8 a3] 63))) (ai.out.ext ((eR w5).alloc _))).ext' (eR _).drew);refine cu1 (i:=3) fun K l=>?_
      go_simp
      (with_reducible refine cM (zb0 _ _ [oi.1,x] R1 cz.out) ?_)
      rintro e w6 ⟨r6,rfl,Q,r⟩;obtain⟨ap,aH,av,aL,ar,aJ,aF,rfl⟩:=Q.form
      go_wp2_with fail
      refine kO l (fun _=>cE g r) (fun g=>?_);clear l K;have g:=g rfl;have L:Ext w5 w6:=((((eR w5).alloc _).alloc _).drew).trans r;refine cu1 (i:=7) fun K l=>?_
      go_simp
      (with_reducible refine cM (zbZ _ _ [oi.2,x] (((zbj w5 rfl be.out ai.out).ext' ((eR _).alloc _).drew).ext' r) cB.out) ?_)
      rintro e w7 ⟨r7,rfl,T,p⟩;obtain⟨aq,aI,aw,aM,au,aK,aG,rfl⟩:=T.form
      go_wp2_with fail
      refine kO l (fun _=>cE g p) (fun g=>?_);clear l K;have g:=g rfl;obtain⟨_,_,_,_,_,_,_,x0,x1,x2,aj,ak,al,xz,_⟩:=((D.out.ext (L.trans p)).2.2.2.1).rd;obtain⟨_,_,_,_,_,_,_,y0,y1,y2,am,an,ao,yz,_⟩:=((D.out.ext (L.trans p)).2.2.2.2.1).rd;refine cu1 (i:=8) fun K l=>?_
      go_simp;refine kO l (fun h=>nomatch h) (fun g=>?_);clear l K;refine cu1 (i:=9) fun K l=>?_
      go_simp;refine kO l (fun h=>nomatch h) (fun g=>?_);clear l K;refine doneHU kM ?_ _;have z:=ze9 (i:=i) (D.out.ext (L.trans p)) (Q.ext p) T z1 z2 (Nat.lt_of_lt_of_le z3 (L.trans p).size) (b1.out.ext (L.trans p)) (P.out.ext (L.trans p)) rfl rfl;obtain⟨W9,t⟩:=gX (((((((w7.setCell ⟨w.heap.size+1,0,Y⟩ (O ap aH av)).setCell ⟨w.heap.size+1,1,Y⟩ (Z aL)).setCell ⟨w.heap.size+1,2,Y⟩ (O ar aJ aF)).setCell ⟨w.heap.size+1+1,0,Y⟩ (O aq aI aw)).setCell ⟨w.heap.size+1+1,1,Y⟩ (Z aM)).setCell ⟨w.heap.size+1+1,2,Y⟩ (O au aK aG)));rw[t]at z ⊢;have z:=hd9 z;clear t x0 x1 x2 aj ak al y0 y1 y2 am an ao g;go_wp2;go_meet;rw[ca.out,if_pos hk];exact z.out
    ·go_wp2
     go_meet;rw[ca.out,if_neg oM];exact⟨aU,bh,rfl,rfl,rfl,z1,z2,z3,G,ah,ae⟩
   case rest =>
    clear ah ae G X5 z1 z2 z3 aU bh;obtain⟨aU,bh,rfl,rfl,rfl,z1,z2,z3,G,ah,ae⟩:=hcut
    by_cases dn:i=0
    ·subst dn
     go_wp2
     go_roundg (n-(0+1))
     case measure=>have:=Hn.out;omega
     case rel=>exact⟨1,by rw[Hn.out];omega,by go_num,by rw[Hn.out],by have e:reachN (pinG s m) qs (q1,q1) 1=o1:=HN.out.trans (if_pos trivial);rw[e];exact G⟩
    ·have gg:((i:Int)==0)=false:=by simpa using dn
     go_upto_region 13 with fail
     obtain⟨j,rfl⟩:∃j,i=j+1:=⟨i-1,by omega⟩;obtain⟨y,hy⟩:∃y,qs[j]?=I y:=⟨qs[j]'(by rw[Hn.out];omega),gE _⟩;have bg:=hd9 (Hq.out y (lM hy));have Hy:=hd9 hy;have cx:=hd9 (show Rb limR (gapR s y)from zat (Rb.gap bg.out bx.out) oM);obtain⟨b8,o8,ya,ym,yc,ys,dD,dF,dE,h8,ge,dz,eK,eL,eM⟩:=G.2.2.2.2.2.rs.at' hy
     cases h8
     have bp:=G.2.2.1;rw[cc,cb]at bp;have cj:=qcB bp (i:=0) (u:=O a1 n1 m1) rfl;have ck:=qcB bp (i:=1) (u:=O a2 n2 m2) rfl;have cl:=qcB bp (i:=2) (u:=V .i64 lo) rfl;have cm:=qcB bp (i:=3) (u:=V .i64 hi) rfl;have Yc:=hd9 (G.1);have dY:=hd9 dz;have cX:=hd9 G;have a9:=hd9 ah;have P:=hd9 ae
     have gi:wrap64 (((j+1:Nat):Int)-1)=(j:Int):=by
      rw[IntWalk.wrap64_in _ oM];omega
     have gh:IntKind.i64.wrap ((j:Nat):Int)=(j:Int):=iW _ ⟨by omega,by omega⟩;have gT:(0:Int)<=(j:Int):=oM
     have gU:(j:Int)<(n:Int):=oM
     have gV:j<n:=oM
     clear G ah ae bp dz hy
     go_cut [10,11,12,13] (Rc2 w s (O a1 n1 m1) (O a2 n2 m2) (O (I ⟨b7,o7,Y⟩) n c7) qs o1 (j+1) x (pinG s m x) (pinG s m y))
     case first =>
      have C9:CellL [(⟨w.heap.size,0,Y⟩,O a1 n1 m1),(⟨w.heap.size,1,Y⟩,O a2 n2 m2),(⟨w.heap.size,2,Y⟩,V .i64 lo),(⟨w.heap.size,3,Y⟩,V .i64 hi),(⟨b7,o7+j*3,Y⟩,O ya ym yc),(⟨b7,o7+j*3+1,Y⟩,Z ys),(⟨b7,o7+j*3+2,Y⟩,O dD dF dE)] wc.drew:=by refine⟨?_,?_,?_,?_,?_,?_,?_,trivial⟩<;>go_simp
      refine zcq [(10,13,X #[O Y 0 0,Z false,O Y 0 0] 63 (0,0))] _ 11 8 (fun i=>decide (10<i)) (fun _=>false) kM kM kM sM kM (by intro x hx;simp only[List.mem_cons,List.not_mem_nil,or_false]at hx;rcases hx with rfl<;>exact⟨_,rfl,rfl,fun a W=>by go_simp⟩) (fun _ _ d _ _ h=>by cases d<;>exact h) C9 (fun g=>?_);refine tf1 (i:=0) ?_;refine tf1 (i:=1) ?_;refine tf1 (i:=2) ?_;refine tf1 (i:=3) ?_;refine tf1 (i:=4) ?_;refine tf1 (i:=5) ?_;refine tf1 (i:=7) ?_;have dH:=hd9 (fun(W:World)(hW:Ext wc W)=>HG.out W (Yc.out.trans hW) (.agg #[O ya ym yc,Z ys,O dD dF dE]) y (dY.out.ext hW) bg.out);refine cf1 (i:=6) fun W6 di bG af K l=>?_
      go_simp
      (with_reducible refine cM (dH.out W6 ((eR wc).drew.trans bG)) ?_)
      rintro e w6 ⟨gF,rfl,bQ,r⟩;obtain⟨fJ,gt,gb,gN,f5,gz,fo,rfl⟩:=bQ.form
      go_wp2_with fail
      refine kO l (.of bG r) (fun _ _=>?_);clear l K af;refine cf1 (i:=8) fun W8 bo aC af K l=>?_
      go_simp
      (with_reducible refine cM (zaP W8 m cL cN) ?_)
      rintro e w8 ⟨gG,rfl,bT,br⟩;obtain⟨fK,gu,gc,gO,f6,gB,fp,rfl⟩:=bT.form
      go_wp2_with fail
      refine kO l (.of aC br) (fun _ _=>?_);clear l K af;refine cf1 (i:=9) fun W9 aS aT af K l=>?_
      go_simp
      (with_reducible refine cM (zb9 W9 _ _ (gapR s y) (m:Rat) (bQ.ext (bo.trans (br.trans aS))) (bT.ext aS) cx.out bw.out.2) ?_)
      rintro e w9 ⟨gH,rfl,bU,bX⟩;obtain⟨fL,gv,gd,gP,f7,gC,fq,rfl⟩:=bU.form
      go_wp2_with fail
      refine kO l (.of aT bX) (fun _ _=>?_);clear l K af;refine df kM (fun bz aA aB=>?_);intro aP bs dB _ _;have X9:Ext wc bz:=(eR wc).drew.trans aB;have bP:=bU.ext aA;have dd:RB bz aP 0:=⟨_,_,_,_,_,_,_,bs,IsR.zero _⟩;have fx:wc.heap.size<=aP:=by simpa using dB
      have cW:=zaa bs;have dj:bh<aP:=oM
      have q0:=qcB bs (i:=0) (u:=O Y 0 0) rfl;have cU:=qcB bs (i:=1) (u:=Z false) rfl;have cV:=qcB bs (i:=2) (u:=O Y 0 0) rfl;have qf:=qfB bs;clear di r bo br aS bX aA bQ bT bU bG aC aT;refine cl1 (i:=11) fun K l=>?_
      go_simp;refine kO l (cE g (by(repeat refine Ext.set ?_ (by exact dB) _);exact aB)) (fun d5=>?_);clear l K;refine wpAnyH_done kM ?_ _;have z:=zj7 (i:=j+1) (cX.out.ext X9) bP z1 z2 dj cW (a9.out.ext X9) (P.out.ext X9) dd (by simp only[Value.ownBlock,ne_eq,Option.some.injEq];omega) rfl;have z:=hd9 z;clear g q0 cU cV qf;go_wp2;go_meet;exact z.out
     case rest =>
      clear z1 z2 z3 a9 P cX eK eL eM cj ck cl cm;obtain⟨aP,⟨cF,bj,rfl,rfl,rfl,z1,z2,z3,G,ah,ae⟩,rfl,cW,cu⟩:=hcut;obtain⟨pa,pm,ab,ps,aa,ad,ac,p0,p1,p2,bY,bZ,b0,pz,bn⟩:=ae.rd;obtain⟨ea,em,ec,es,ax,az,ay,e0,e1,e2,bA,bB,bC,ez,bm⟩:=cu.rd;obtain⟨kh,ce⟩:=gX ((pinG s m y).num.sign);have dP:=hd9 (fun(W:World)(v:Value)(h:IsR W v (pinG s m y))=>ce▸zbz W v _ h);have dp:=zeD (pinG s m y);rw[ce]at dp;have dU:=hd9 ce;clear ce;obtain⟨km,cI⟩:=gX (kg*kh)
      have fm : -1<=km/\km<=1:=by
       have a1:kg = -1\/kg=0\/kg=1:=oM
       have a2:kh = -1\/kh=0\/kh=1:=oM
       rcases a1 with rfl|rfl|rfl<;>rcases a2 with rfl|rfl|rfl<;>omega
      have gk:IntKind.i64.wrap (kg*kh)=km:=by rw[cI];exact iW _ ⟨by omega,by omega⟩
      have fn:wrap64 (kg*kh)=km:=by rw[cI];exact IntWalk.wrap64_in _ ⟨by omega,by omega⟩
      have gj:IntKind.i64.wrap km=km:=iW _ ⟨by omega,by omega⟩
      have c3:=hd9 (show reachN (pinG s m) qs (q1,q1) (j+1+1)=if km<0 then widR o1 (crossR (pinG s m) y x)else o1 by
       have e:=HN.out;rw[if_neg oM]at e;rw[e,show qs.getD (j+1-1) 0=y by rw[Nat.add_sub_cancel,gD,Hy.out];rfl];unfold reachCross;rw[dS.out,dU.out,cI])
      go_wp2;refine wp_region_held_drew (S:=CellL [(⟨bj,0,Y⟩,O pa pm ab),(⟨bj,1,Y⟩,Z ps),(⟨bj,2,Y⟩,O aa ad ac),(⟨aP,0,Y⟩,O ea em ec),(⟨aP,1,Y⟩,Z es),(⟨aP,2,Y⟩,O ax az ay)]) kM cA (fun g=>?_);have E1:Ext wc wc.drew:=(eR _).drew;refine tk1 (i:=0) ?_;refine tk1 (i:=2) ?_;refine cl1 (i:=1) fun K l=>?_
      go_simp
      (with_reducible refine cM (c8.out _ _ (bn.ext E1)) ?_)
      rintro e w1 ⟨rfl,aE⟩
      skip
      go_wp2_with fail
      refine kO l (cE g aE) (fun g=>?_);clear l K;refine cl1 (i:=3) fun K l=>?_
      go_simp
      (with_reducible refine cM (dP.out _ _ (bm.ext (E1.trans aE))) ?_)
      rintro e w3 ⟨rfl,ag⟩
      skip
      go_wp2_with fail
      refine kO l (cE g ag) (fun g=>?_);clear l K;refine sN 4 ?_
      iterate 2
       refine tkn ?_
      refine oN ?_;refine wpAnyH_done kM ?_ _;have X3:Ext wc w3:=E1.trans (aE.trans ag);have G3:=G.ext X3;clear g p0 p1 p2 bY bZ b0 e0 e1 e2 bA bB bC
      by_cases aD:km<0
      ·have eo:decide (km<0)=true:=by simpa using aD
       have dx:=X3.size;have bu:=ah.ext X3;have bv:=ae.ext X3;have cn:=cu.ext X3;obtain⟨ua,um,uc,us,a0,a8,a3,u0,u1,u2,_,_,_,uz,bc⟩:=bu.rd;obtain⟨va,vm,vc,vs,eB,eD,eC,v0,ex,ey,_,_,_,vz,dw⟩:=bv.rd;obtain⟨ta,tm,tc,ts,eq,et,er,t0,t1,t2,_,_,_,tz,cS⟩:=cn.rd;obtain⟨b9,o9,za,zm,zc,zs,eN,eP,eO,h9,gf,cT,eQ,eU,eV⟩:=G3.2.2.2.2.2.rs.at' Hy.out
       cases h9
       have cY:=hd9 G3;have a9:=hd9 bu;have P:=hd9 bv;have bJ:Rb 47 (pinG s m y):=Rb.pin_g bg.out bx.out Hp.out;have cd:Rb 47 (pinG s m x):=Rb.pin_g aO.out bx.out Hp.out;have cG:Rb 95 (pinG s m y-pinG s m x):=bJ.sub cd;have cH:Rb 142 (pinG s m y / (pinG s m y-pinG s m x)):=bJ.div cG dM;have dm:Rb 145 (pinG s m y / (pinG s m y-pinG s m x)*(x-y)):=cH.mul (aO.out.sub bg.out);have c2:=hd9 (show Rb limR (pinG s m y)from zat bJ oM);have dL:=hd9 (show Rb limR (pinG s m x)from zat cd oM);have dI:=hd9 (show Rb limR (pinG s m y-pinG s m x)from zat cG oM);have dK:=hd9 (show Rb limR (pinG s m y / (pinG s m y-pinG s m x))from zat cH oM);have dJ:=hd9 (show Rb limR (pinG s m y / (pinG s m y-pinG s m x)*(x-y))from zat dm oM);have c1:=hd9 (show Rb limR (x-y)from zat (aO.out.sub bg.out) oM);have c0:=hd9 (show Rb limR x from zat aO.out oM);have co:=hd9 (show Rb limR y from zat bg.out oM);have b2:=hd9 (show reachN (pinG s m) qs (q1,q1) (j+1+1)=widR o1 (crossR (pinG s m) y x) by rw[c3.out,if_pos aD]);have cy:=hd9 (show Rb 291 (crossR (pinG s m) y x)from Rb.cross bg.out aO.out bJ cd);clear G3 bu bv cn bJ cd cG cH dm ah ae cu G aE ag
       go_upto_region 15 with fail
       go_cut [10,11,12,14] (Rc2 w s (O a1 n1 m1) (O a2 n2 m2) (O (I ⟨b7,o7,Y⟩) n c7) qs o1 (j+1) x (pinG s m x) (crossR (pinG s m) y x))
       case first =>
        have C9:CellL [(⟨b7,o7+j*3,Y⟩,O za zm zc),(⟨b7,o7+j*3+1,Y⟩,Z zs),(⟨b7,o7+j*3+2,Y⟩,O eN eP eO),(⟨aP,0,Y⟩,O ta tm tc),(⟨aP,1,Y⟩,Z ts),(⟨aP,2,Y⟩,O eq et er),(⟨bj,0,Y⟩,O va vm vc),(⟨bj,1,Y⟩,Z vs),(⟨bj,2,Y⟩,O eB eD eC),(⟨cF,0,Y⟩,O ua um uc),(⟨cF,1,Y⟩,Z us),(⟨cF,2,Y⟩,O a0 a8 a3)] w3.drew:=by refine⟨?_,?_,?_,?_,?_,?_,?_,?_,?_,?_,?_,?_,trivial⟩<;>go_simp
        refine zcq [(19,14,X #[O Y 0 0,Z false,O Y 0 0] 63 (0,0))] _ 20 8 (fun i=>decide (19<i)) (fun _=>false) kM kM kM sM kM (by intro x hx;simp only[List.mem_cons,List.not_mem_nil,or_false]at hx;rcases hx with rfl<;>exact⟨_,rfl,rfl,fun a W=>by go_simp⟩) (fun _ _ d _ _ h=>by cases d<;>exact h) C9 (fun g=>?_);refine tf1 (i:=0) ?_;refine tf1 (i:=1) ?_;refine tf1 (i:=2) ?_;refine tf1 (i:=3) ?_;refine tf1 (i:=4) ?_;refine tf1 (i:=5) ?_;refine tf1 (i:=6) ?_;refine tf1 (i:=7) ?_;refine tf1 (i:=10) ?_;refine tf1 (i:=11) ?_;refine tf1 (i:=12) ?_;refine tf1 (i:=13) ?_;refine tf1 (i:=14) ?_;refine tf1 (i:=15) ?_;refine cf1 (i:=8) fun W8 bo aC af K l=>?_
        go_simp
        (with_reducible refine cM (zb9 W8 _ _ (pinG s m y) (pinG s m x) (cS.ext ((eR w3).drew.trans aC)) (dw.ext ((eR w3).drew.trans aC)) c2.out dL.out) ?_)
        rintro e gQ ⟨gI,rfl,cQ,br⟩;obtain⟨fM,fU,fQ,fY,fO,fW,fS,rfl⟩:=cQ.form
        go_wp2_with fail
        refine kO l (.of aC br) (fun _ _=>?_);clear l K af;refine cf1 (i:=9) fun W9 aS aT af K l=>?_
        go_simp
        (with_reducible refine cM (zfH W9 _ _ (pinG s m y) ((pinG s m y)-(pinG s m x)) (cS.ext ((eR w3).drew.trans aT)) (cQ.ext aS) c2.out dI.out) ?_)
        rintro e gR ⟨gJ,rfl,cR,bX⟩;obtain⟨fN,fV,fR,fZ,fP,fX,fT,rfl⟩:=cR.form
        go_wp2_with fail
        refine kO l (.of aT bX) (fun _ _=>?_);clear l K af;refine cf1 (i:=16) fun dZ bD aW af K l=>?_
        go_simp
        (with_reducible refine cM (zb9 dZ _ _ x y (bc.ext ((eR w3).drew.trans aW)) (cT.ext ((eR w3).drew.trans aW)) c0.out co.out) ?_)
        rintro e fu ⟨fr,rfl,bM,bV⟩;obtain⟨eW,fd,e7,fj,e4,fg,fa,rfl⟩:=bM.form
        go_wp2_with fail
        refine kO l (.of aW bV) (fun _ _=>?_);clear l K af;refine cf1 (i:=17) fun d0 bk bF af K l=>?_
        go_simp
        (with_reducible refine cM (zhk d0 _ _ ((pinG s m y) / ((pinG s m y)-(pinG s m x))) (x-y) (cR.ext (bD.trans (bV.trans bk))) (bM.ext bk) dK.out c1.out) ?_)
        rintro e fv ⟨fs,rfl,bN,cr⟩;obtain⟨eY,fe,e8,fk,e5,fh,fb,rfl⟩:=bN.form
        go_wp2_with fail
        refine kO l (.of bF cr) (fun _ _=>?_);clear l K af;refine cf1 (i:=18) fun d1 bE bl af K l=>?_
        go_simp
        (with_reducible refine cM (zeY d1 _ _ y ((pinG s m y) / ((pinG s m y)-(pinG s m x))*(x-y)) (cT.ext ((eR w3).drew.trans bl)) (bN.ext bE) co.out dJ.out) ?_)
        rintro e fw ⟨ft,rfl,bO,ct⟩;obtain⟨eZ,ff,e9,fl,e6,fi,fc,rfl⟩:=bO.form
        go_wp2_with fail
        refine kO l (.of bl ct) (fun _ _=>?_);clear l K af;refine df kM (fun bz aA aB=>?_);intro bi bt dC _ _;have X9:Ext w3 bz:=(eR w3).drew.trans aB;have bP:=bO.ext aA;have de:RB bz bi 0:=⟨_,_,_,_,_,_,_,bt,IsR.zero _⟩;have fy:w3.heap.size<=bi:=by simpa using dC
        have dG:=zaa bt;have dk:bj<bi:=by obtain⟨_,_,_,_,_,_,_,_,_,_,_,_,_,qz,_⟩:=P.out.rd;omega
        have q0:=qcB bt (i:=0) (u:=O Y 0 0) rfl;have cU:=qcB bt (i:=1) (u:=Z false) rfl;have cV:=qcB bt (i:=2) (u:=O Y 0 0) rfl;have qf:=qfB bt;clear bo br aS bX bD bV bk cr bE ct aA cQ cR bM bN bO aC aT aW bF bl;refine cl1 (i:=20) fun K l=>?_
        go_simp;refine kO l (cE g (by(repeat refine Ext.set ?_ (by exact dC) _);exact aB)) (fun d5=>?_);clear l K;refine wpAnyH_done kM ?_ _;have z:=zj7 (i:=j+1) (cY.out.ext X9) bP z1 z2 dk dG (a9.out.ext X9) (P.out.ext X9) de (by simp only[Value.ownBlock,ne_eq,Option.some.injEq];omega) rfl;have z:=hd9 z;clear g q0 cU cV qf;go_wp2;go_meet;exact z.out
       case rest =>
        clear z1 z2 z3 a9 P cY eQ eU eV u0 u1 u2 v0 ex ey t0 t1 t2 bc dw cS cT X3 cW dx;obtain⟨bi,⟨aU,bh,rfl,rfl,rfl,z1,z2,z3,G,ah,ae⟩,rfl,dG,cw⟩:=hcut;obtain⟨cv,dl⟩:=gX (crossR (pinG s m) y x);rw[dl]at b2 cy cw;clear dl;have cC:=hd9 (show ∀q∈[o1.1,cv],Rb limR q from fun q hq=>by rcases List.mem_cons.1 hq with rfl|hq;exact zat cp.out.1 oM;rw[List.mem_singleton.1 hq];exact zat cy.out oM);have cD:=hd9 (show ∀q∈[o1.2,cv],Rb limR q from fun q hq=>by rcases List.mem_cons.1 hq with rfl|hq;exact zat cp.out.2 oM;rw[List.mem_singleton.1 hq];exact zat cy.out oM);go_wp2;obtain⟨pa,pm,ab,ps,aa,ad,ac,p0,p1,p2,bY,bZ,b0,pz,bn⟩:=(G.2.2.2.1).rd;obtain⟨ea,em,ec,es,ax,az,ay,e0,e1,e2,bA,bB,bC,ez,bm⟩:=(G.2.2.2.2.1).rd;obtain⟨ua,um,uc,us,a0,a8,a3,u0,u1,u2,eu,ev,ew,uz,bc⟩:=(cw).rd;have D:=hd9 G;have b1:=hd9 (cw);have P:=hd9 ae;have bf:=hd9 bn;have be:=hd9 bm;have ai:=hd9 bc;clear G ah ae bn bm bc;have D0:Ext wc wc.drew:=(eR _).drew;refine zae (fun i=>decide (7<i)) (CellL [(⟨w.heap.size+1,0,Y⟩,O pa pm ab),(⟨w.heap.size+1,1,Y⟩,Z ps),(⟨w.heap.size+1,2,Y⟩,O aa ad ac),(⟨w.heap.size+1+1,0,Y⟩,O ea em ec),(⟨w.heap.size+1+1,1,Y⟩,Z es),(⟨w.heap.size+1+1,2,Y⟩,O ax az ay),(⟨bi,0,Y⟩,O ua um uc),(⟨bi,1,Y⟩,Z us),(⟨bi,2,Y⟩,O a0 a8 a3)]) kM ?_ (fun g=>?_)
        ·exact cA
        refine sN 0 ?_
        iterate 2
         refine tun ?_
        refine oN ?_;refine sN 4 ?_
        iterate 2
         refine tun ?_
        refine oN ?_;refine callHU2 (i:=2) (j:=6) (fun K l=>?h1k1xx1) (fun K l=>?h2k1xx1)
        case h1k1xx1 =>
         go_simp;refine kO l (fun _=>cE g ((eR _).alloc _)) (fun g=>?_);clear l K;have g:=g rfl;refine callHU2 (i:=3) (j:=6) (fun K l=>?h1k2xx1) (fun K l=>?h2k2xx1)
         case h1k2xx1 =>
          go_simp
          (with_reducible refine cM (zb0 _ _ [o1.1,cv] ((zbj wc rfl bf.out ai.out).ext' (eR _).drew) cC.out) ?_)
          rintro e w6 ⟨r6,rfl,Q,r⟩;obtain⟨ap,aH,av,aL,ar,aJ,aF,rfl⟩:=Q.form
          go_wp2_with fail
          refine kO l (fun _=>cE g r) (fun g=>?_);clear l K;have g:=g rfl;have L:Ext wc w6:=(((eR wc).alloc _).drew).trans r;refine cu1 (i:=6) fun K l=>?_
          go_simp;refine kO l (fun _=>cE g ((eR _).alloc _)) (fun g=>?_);clear l K;have g:=g rfl;refine cu1 (i:=7) fun K l=>?_
          go_simp
          (with_reducible refine cM (zbZ _ _ [o1.2,cv] (zbj w6 rfl (be.out.ext L) (ai.out.ext L)) cD.out) ?_)
          rintro e w7 ⟨r7,rfl,T,p⟩;obtain⟨aq,aI,aw,aM,au,aK,aG,rfl⟩:=T.form
          go_wp2_with fail
          refine kO l (fun _=>cE g p) (fun g=>?_);clear l K;have g:=g rfl;obtain⟨_,_,_,_,_,_,_,x0,x1,x2,aj,ak,al,xz,_⟩:=((D.out.ext ((L.alloc _).trans p)).2.2.2.1).rd;obtain⟨_,_,_,_,_,_,_,y0,y1,y2,am,an,ao,yz,_⟩:=((D.out.ext ((L.alloc _).trans p)).2.2.2.2.1).rd;refine cu1 (i:=8) fun K l=>?_
          go_simp;refine kO l (fun h=>nomatch h) (fun g=>?_);clear l K;refine cu1 (i:=9) fun K l=>?_
          go_simp;refine kO l (fun h=>nomatch h) (fun g=>?_);clear l K;refine doneHU kM ?_ _;obtain⟨W9,t⟩:=gX (((((((w7.setCell ⟨w.heap.size+1,0,Y⟩ (O ap aH av)).setCell ⟨w.heap.size+1,1,Y⟩ (Z aL)).setCell ⟨w.heap.size+1,2,Y⟩ (O ar aJ aF)).setCell ⟨w.heap.size+1+1,0,Y⟩ (O aq aI aw)).setCell ⟨w.heap.size+1+1,1,Y⟩ (Z aM)).setCell ⟨w.heap.size+1+1,2,Y⟩ (O au aK aG)));have z:=(RcW.put2 (D.out.ext ((L.alloc _).trans p)) ((Q.ext ((eR _).alloc _)).ext p) T rfl rfl).1;rw[t]at z ⊢;have z:=hd9 z;clear t x0 x1 x2 aj ak al y0 y1 y2 am an ao g;go_wp2
          go_roundg (n-(j+1+1))
          case measure=>have:=Hn.out;omega
          case rel=>exact⟨j+1+1,by rw[Hn.out];omega,by go_num,by rw[Hn.out],by rw[b2.out];exact z.out⟩
         case h2k2xx1 =>
          go_simp;refine kO l (fun _=>cE g ((eR _).alloc _)) (fun g=>?_);clear l K;have g:=g rfl;refine cu1 (i:=3) fun K l=>?_
          go_simp
          (with_reducible refine cM (zb0 _ _ [o1.1,cv] ((zbj wc rfl bf.out ai.out).ext' ((eR _).alloc _).drew) cC.out) ?_)
          rintro e w6 ⟨r6,rfl,Q,r⟩;obtain⟨ap,aH,av,aL,ar,aJ,aF,rfl⟩:=Q.form
          go_wp2_with fail
          refine kO l (fun _=>cE g r) (fun g=>?_);clear l K;have g:=g rfl;have L:Ext wc w6:=((((eR wc).alloc _).alloc _).drew).trans r;have R2:=(((zbj _ (b:=wc.heap.size+1) sM (be.out.ext ((eR wc).alloc (X #[O pa pm ab,Z ps,O aa ad ac,O ua um uc,Z us,O a0 a8 a3] 63))) (ai.out.ext ((eR wc).alloc _))).ext' (eR _).drew).ext' r);refine cu1 (i:=7) fun K l=>?_
          go_simp
          (with_reducible refine cM (zbZ _ _ [o1.2,cv] R2 cD.out) ?_)
          rintro e w7 ⟨r7,rfl,T,p⟩;obtain⟨aq,aI,aw,aM,au,aK,aG,rfl⟩:=T.form
          go_wp2_with fail
          refine kO l (fun _=>cE g p) (fun g=>?_);clear l K;have g:=g rfl;obtain⟨_,_,_,_,_,_,_,x0,x1,x2,aj,ak,al,xz,_⟩:=((D.out.ext (L.trans p)).2.2.2.1).rd;obtain⟨_,_,_,_,_,_,_,y0,y1,y2,am,an,ao,yz,_⟩:=((D.out.ext (L.trans p)).2.2.2.2.1).rd;refine cu1 (i:=8) fun K l=>?_
          go_simp;refine kO l (fun h=>nomatch h) (fun g=>?_);clear l K;refine cu1 (i:=9) fun K l=>?_
          go_simp;refine kO l (fun h=>nomatch h) (fun g=>?_);clear l K;refine doneHU kM ?_ _;obtain⟨W9,t⟩:=gX (((((((w7.setCell ⟨w.heap.size+1,0,Y⟩ (O ap aH av)).setCell ⟨w.heap.size+1,1,Y⟩ (Z aL)).setCell ⟨w.heap.size+1,2,Y⟩ (O ar aJ aF)).setCell ⟨w.heap.size+1+1,0,Y⟩ (O aq aI aw)).setCell ⟨w.heap.size+1+1,1,Y⟩ (Z aM)).setCell ⟨w.heap.size+1+1,2,Y⟩ (O au aK aG)));have z:=(RcW.put2 (D.out.ext (L.trans p)) (Q.ext p) T rfl rfl).1;rw[t]at z ⊢;have z:=hd9 z;clear t x0 x1 x2 aj ak al y0 y1 y2 am an ao g;go_wp2
          go_roundg (n-(j+1+1))
          case measure=>have:=Hn.out;omega
          case rel=>exact⟨j+1+1,by rw[Hn.out];omega,by go_num,by rw[Hn.out],by rw[b2.out];exact z.out⟩
        case h2k1xx1 =>
         go_simp;refine kO l (fun _=>cE g ((eR _).alloc _)) (fun g=>?_);clear l K;have g:=g rfl;refine cu1 (i:=2) fun K l=>?_
         go_simp;refine kO l (fun _=>cE g ((eR _).alloc _)) (fun g=>?_);clear l K;have g:=g rfl;have R1:=((zbj _ (b:=wc.heap.size+1) sM (bf.out.ext ((eR wc).alloc (X #[O ea em ec,Z es,O ax az ay,O ua um uc,Z us,O a0 a8 a3] 63))) (ai.out.ext ((eR wc).alloc _))).ext' (eR _).drew);refine cu1 (i:=3) fun K l=>?_
         go_simp
         (with_reducible refine cM (zb0 _ _ [o1.1,cv] R1 cC.out) ?_)
         rintro e w6 ⟨r6,rfl,Q,r⟩;obtain⟨ap,aH,av,aL,ar,aJ,aF,rfl⟩:=Q.form
         go_wp2_with fail
         refine kO l (fun _=>cE g r) (fun g=>?_);clear l K;have g:=g rfl;have L:Ext wc w6:=((((eR wc).alloc _).alloc _).drew).trans r;refine cu1 (i:=7) fun K l=>?_
         go_simp
         (with_reducible refine cM (zbZ _ _ [o1.2,cv] (((zbj wc rfl be.out ai.out).ext' ((eR _).alloc _).drew).ext' r) cD.out) ?_)
         rintro e w7 ⟨r7,rfl,T,p⟩;obtain⟨aq,aI,aw,aM,au,aK,aG,rfl⟩:=T.form
         go_wp2_with fail
         refine kO l (fun _=>cE g p) (fun g=>?_);clear l K;have g:=g rfl;obtain⟨_,_,_,_,_,_,_,x0,x1,x2,aj,ak,al,xz,_⟩:=((D.out.ext (L.trans p)).2.2.2.1).rd;obtain⟨_,_,_,_,_,_,_,y0,y1,y2,am,an,ao,yz,_⟩:=((D.out.ext (L.trans p)).2.2.2.2.1).rd;refine cu1 (i:=8) fun K l=>?_
         go_simp;refine kO l (fun h=>nomatch h) (fun g=>?_);clear l K;refine cu1 (i:=9) fun K l=>?_
         go_simp;refine kO l (fun h=>nomatch h) (fun g=>?_);clear l K;refine doneHU kM ?_ _;obtain⟨W9,t⟩:=gX (((((((w7.setCell ⟨w.heap.size+1,0,Y⟩ (O ap aH av)).setCell ⟨w.heap.size+1,1,Y⟩ (Z aL)).setCell ⟨w.heap.size+1,2,Y⟩ (O ar aJ aF)).setCell ⟨w.heap.size+1+1,0,Y⟩ (O aq aI aw)).setCell ⟨w.heap.size+1+1,1,Y⟩ (Z aM)).setCell ⟨w.heap.size+1+1,2,Y⟩ (O au aK aG)));have z:=(RcW.put2 (D.out.ext (L.trans p)) (Q.ext p) T rfl rfl).1;rw[t]at z ⊢;have z:=hd9 z;clear t x0 x1 x2 aj ak al y0 y1 y2 am an ao g;go_wp2
         go_roundg (n-(j+1+1))
         case measure=>have:=Hn.out;omega
         case rel=>exact⟨j+1+1,by rw[Hn.out];omega,by go_num,by rw[Hn.out],by rw[b2.out];exact z.out⟩
      ·have eo:decide (km<0)=false:=by simpa using aD
       go_wp2
       go_roundg (n-(j+1+1))
       case measure=>have:=Hn.out;omega
       case rel=>exact⟨j+1+1,by rw[Hn.out];omega,by go_num,by rw[Hn.out],by rw[c3.out,if_neg (Int.not_lt.2 aD)];exact G3⟩
  ·obtain rfl:i=n:=oM
   obtain⟨y1,y2,y3,db,dc,y6⟩:=hI;have Y1:=hd9 y1;clear y1 y3 y6 z HT HG dW bq cf;go_wp2;obtain⟨pa,pm,ab,ps,aa,ad,ac,p0,p1,p2,bY,bZ,b0,pz,dq⟩:=db.rd;obtain⟨ea,em,ec,es,ax,az,ay,e0,e1,e2,bA,bB,bC,ez,dr⟩:=dc.rd;refine zae (fun i=>decide (2<i)) (CellL [(⟨w.heap.size+1,0,Y⟩,O pa pm ab),(⟨w.heap.size+1,1,Y⟩,Z ps),(⟨w.heap.size+1,2,Y⟩,O aa ad ac),(⟨w.heap.size+1+1,0,Y⟩,O ea em ec),(⟨w.heap.size+1+1,1,Y⟩,Z es),(⟨w.heap.size+1+1,2,Y⟩,O ax az ay)]) kM ?_ (fun g=>?_)
   ·exact cA
   refine sN 0 ?_
   iterate 2
    refine tun ?_
   refine oN ?_;refine cu1 (i:=2) fun K l=>?_
   go_simp;refine kO l (fun _=>?_) (fun g=>?_)
   ·exact cA
   clear l K;have g:=g rfl;refine cu1 (i:=3) fun K l=>?_
   go_simp;refine kO l (fun h=>nomatch h) (fun g=>?_);clear l K;refine cu1 (i:=4) fun K l=>?_
   go_simp;refine kO l (fun h=>nomatch h) (fun g=>?_);clear l K;refine doneHU kM ?_ _;go_wp2;refine bR (v:=.tuple #[.agg #[O pa pm ab,Z ps,O aa ad ac],.agg #[O ea em ec,Z es,O ax az ay],Z true]) (by simp[results,Tryz.results143,go_sem,p0,p1,p2,bY,bZ,b0,e0,e1,e2,bA,bB,bC]) rfl ?_;rw[<-HR.out];obtain⟨P1,P2,P3,P4,P5,P6⟩:=RB.copy2 db dc oM dq dr rfl rfl;refine⟨(P6 w Y1.out oM oM).drew,.agg #[O pa pm ab,Z ps,O aa ad ac],.agg #[O ea em ec,Z es,O ax az ay],?_,?_,rfl⟩
   ·exact(dq.keep P4).ext (eR _).drew
   ·exact(dr.keep P4).ext (eR _).drew
end
end Go.Proofs.YtjnjpagegkcgfaaGreatDoor.Cop
