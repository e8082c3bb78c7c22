/- Part 18: contracts of what the law calls. -/
import Derived.Test.YtodpfeaihohpjaaGreatDoorCopA16
set_option maxRecDepth 1000000
set_option maxHeartbeats 16000000
set_option linter.unusedSimpArgs false
set_option linter.unusedVariables false
open Go.Value renaming slice→O,bool→Z,int→X
open Option renaming none→Y,some→J
open Go.IntKind renaming i64→V
open Go.Obj renaming cells→I
namespace Go.Proofs.YtodpfeaihohpjaaGreatDoor.Cop
section
open Go.RowKit Go.Shelf
attribute [local go_sem] Oper.semAt_some
theorem zkm {f:Rat→Rat} {a:List Rat} {o:Rat×Rat} {i:Nat} {x:Rat} (b:a[i]?=J x):reachN f a o (i+1)=if i=0 then reachStep f (reachN f a o i) x else reachCross f (reachStep f (reachN f a o i) x) (a.getD (i-1) 0) x:=by
 have e:a.getD i 0=x:=by rw [gD,b];rfl
 rw [show reachN f a o (i+1)=if i=0 then reachStep f (reachN f a o i) (a.getD i 0)else reachCross f (reachStep f (reachN f a o i) (a.getD i 0)) (a.getD (i-1) 0) (a.getD i 0)from rfl,e]
theorem zis (w:World) (v1 v2:Value) (s:Sp) (pin:Int) (h1:IsPts w v1 s.over) (h2:IsPts w v2 s.under) (bA:SpOk s) (hp:Bd 104000 pin) (bz:reachNo s pin=false) :
  Calls Tryz.prog 108 #[spc s v1 v2,X V pin] w (RetRc w (reachP s pin)):=by
 have cT:Rb 1 (leastR s).1:=zas bA _ (by unfold leastR;exact(zav (gapR s) (zaw s)).1);have HT:=hd9 (fun(W:World) (hW:Ext w W)=>zex W v1 v2 s (h1.ext' hW) (h2.ext' hW) bA);have HG:=hd9 (fun(W:World) (hW:Ext w W) (vx:Value) (x:Rat) (hx:IsR W vx x) (hb:Rb 1 x)=>zl6 W s v1 v2 vx x (h1.ext' hW) (h2.ext' hW) bA hx hb);have Hq:=hd9 (zas bA);have cz:=hd9 bA;have HS:=hd9 (fun(W:World) (hW:Ext w W)=>zcn W v1 v2 s (h1.ext' hW) (h2.ext' hW) bA);obtain⟨a1,m1,rfl⟩:=h1.form;obtain⟨a2,m2,rfl⟩:=h2.form;obtain⟨n1,f1⟩:=gX s.over.length;obtain⟨n2,f2⟩:=gX s.under.length;obtain⟨lo,dd⟩:=gX s.lo;obtain⟨hi,dc⟩:=gX s.hi;have d3:=hd9 (show Rb 23 (leastR s).2 by obtain⟨j1,j2⟩:=zav (gapR s) (zaw s);unfold leastR;rw [j2];exact Rb.gap (zas bA _ j1) bA);have Hp:=hd9 hp;have cR : -9223372036854775808≤pin:=by unfold Bd at hp;omega
 have cS:pin≤9223372036854775807:=by unfold Bd at hp;omega
 have HC:=hd9 (fun(W:World) (va vb:Value) (ha:IsR W va (leastR s).2) (hb:IsR W vb (pin:Rat))=>zan W va vb _ _ ha hb (zaf d3.out oM) (zaf (zkg (k:=1) Hp.out oM) oM));have hR:reachP s pin=J (reachN (pinG s pin) (stopsR s) ((leastR s).1,(leastR s).1) (stopsR s).length):=by unfold reachP;rw [if_neg (by simp [bz])]
 rw [hR];unfold reachNo at bz;obtain⟨q1,dj⟩:=gX ((leastR s).1);obtain⟨q2,dN⟩:=gX ((leastR s).2);have eP:=hd9 dj;unfold spc at HS HT HG ⊢;rw [dN]at bz HC d3;rw [dj,dN]at HS;rw [dj]at cT ⊢;have ds:=hd9 cT;clear cT;obtain⟨qs,eu⟩:=gX (stopsR s);rw [eu]at HT Hq ⊢;obtain⟨R,hR⟩:=gX (RetRc w (J (reachN (pinG s pin) qs (q1,q1) qs.length)));rw [hR];have HR:=hd9 hR;simp only [f1,f2,dd,dc]at HS HT HG ⊢;clear h1 h2 bA f1 f2 hR dj dN hp eu;go_enter Tryz.func108,Tryz.ntmps108
 go_wp2_with(((go_at_call 54;(with_reducible refine(HS.out _ ?_).mono ?_);exact eA;rintro e w1 ⟨r1,r2,rfl,ev,bM,bb⟩;obtain⟨a4,m4,c4,s4,b4,n4,k4,rfl⟩:=ev.form;obtain⟨a5,m5,c5,s5,b5,n5,k5,rfl⟩:=bM.form;obtain⟨⟨fe,fj⟩,fS,fT,fU⟩:=cK3 w bb)))
 have K0:=bb.heapS ((((eR _).alloc _).alloc _).heapS (aN w (I #[O a1 n1 m1,O a2 n2 m2,X V lo,X V hi] 120)));obtain⟨W8,bx⟩:=gX (((w1.alloc (I #[O a4 m4 c4,Z s4,O b4 n4 k4] 65)).alloc (I #[O a5 m5 c5,Z s5,O b5 n5 k5] 65)));have bK:Ext w1 W8:=by rw [←bx];exact((eR _).alloc _).alloc _
 have ek:Ext w W8:=(((((eR w).alloc _).alloc _).alloc _).trans bb).trans bK;have g1:RB W8 w1.heap.size q1:=by rw [←bx];exact(RB.new ev rfl).ext ((eR _).alloc _)
 have g2:RB W8 (w1.heap.size+1) q2:=by rw [←bx];exact RB.new (bM.ext ((eR _).alloc _)) sM
 have g3:RB W8 (w.heap.size+1) 0:=(((RB.new (IsR.zero _) sM).ext ((eR _).alloc _)).ext bb).ext bK;have g4:RB W8 (w.heap.size+1+1) 0:=((RB.new (IsR.zero _) sM).ext bb).ext bK;have zW:w1.heap.size+1<W8.heap.size:=by rw [←bx];simp
 have e9:=qcB (show W8.heap[w1.heap.size+1]?=J (I #[O a5 m5 c5,Z s5,O b5 n5 k5] 65 (0,0)) by rw [←bx];exact qhA _ _ _ sM) (i:=0) (u:=O a5 m5 c5) rfl;have fa:=qcB (show W8.heap[w1.heap.size+1]?=J (I #[O a5 m5 c5,Z s5,O b5 n5 k5] 65 (0,0)) by rw [←bx];exact qhA _ _ _ sM) (i:=1) (u:=Z s5) rfl;have fb:=qcB (show W8.heap[w1.heap.size+1]?=J (I #[O a5 m5 c5,Z s5,O b5 n5 k5] 65 (0,0)) by rw [←bx];exact qhA _ _ _ sM) (i:=2) (u:=O b5 n5 k5) rfl;have HX:=hd9 bK;have eL:=hd9 ek;rw [bx];obtain⟨s1,ew⟩:=gX w1.heap.size;simp only [ew]at *;clear bx fe fj bb bK ek HS ew;have K8:=HX.out.heapS K0;clear K0;obtain⟨k,hk⟩:=gX q2.num.sign;have eI:=hd9 (fun(W:World) (v:Value) (h:IsR W v q2)=>hk▸zbp W v q2 h);rw [hk]at bz;clear hk;have a8:¬k<0:=fun h=>by simp [h]at bz
 have hd:decide (k<0)=false:=by simp [a8]
 rw [hd,Bool.false_or]at bz;obtain⟨c,hc⟩:=gX (rcmp q2 (pin:Rat));rw [hc]at bz HC;clear hc;have fd:¬0<c:=by simpa using bz
 refine wp_region_held_drew (S:=CellL [(⟨s1+1,0,Y⟩,O a5 m5 c5),(⟨s1+1,1,Y⟩,Z s5),(⟨s1+1,2,Y⟩,O b5 n5 k5)]) kM cA (fun a=>?_);have E0:Ext w1 W8.drew:=HX.out.trans (eR W8).drew;refine tk1 (i:=0) ?_;refine cl1 (i:=1) fun K d=>?_
 go_simp
 (with_reducible refine cM (eI.out _ _ (bM.ext E0)) ?_)
 rintro e w3 ⟨rfl,aw⟩
 skip
 go_wp2_with fail
 refine kO d (cE a aw) (fun a=>?_);clear d K;refine sN 2 ?_
 iterate 4
  refine tkn ?_
 refine oN ?_;refine cl1 (i:=6) fun K d=>?_
 go_simp
 (with_reducible refine cM (zaM _ pin cR cS) ?_)
 rintro e w4 ⟨r4,rfl,bB,br⟩;obtain⟨a6,m6,c6,s6,b6,n6,k6,rfl⟩:=bB.form
 go_wp2_with fail
 refine kO d (cE a br) (fun a=>?_);clear d K;refine cl1 (i:=7) fun K d=>?_
 go_simp
 (with_reducible refine cM (HC.out _ _ _ (bM.ext (E0.trans (aw.trans br))) bB) ?_)
 rintro e w5 ⟨rfl,bs⟩
 skip
 go_wp2_with fail
 refine kO d (cE a bs) (fun a=>?_);clear d K;refine sN 8 ?_
 iterate 2
  refine tkn ?_
 refine oN ?_;refine wpAnyH_done kM ?_ _;have X3:Ext W8 w5:=((eR W8).drew).trans (aw.trans (br.trans bs));have j1:=g1.ext X3;have j3:=g3.ext X3;have j4:=g4.ext X3;have K5:=X3.heapS K8;have zX:=X3.size;have X0:=eL.out.trans X3;clear a K8 g1 g2 g3 g4 e9 fa fb aw br bs bB E0 hd a8 fd bz;have dZ:=hd9 K5;have eK:=hd9 X0;go_wp2;obtain⟨pa,pm,ap,ps,ao,ar,aq,p0,p1,p2,_,_,_,pz,hp⟩:=j1.rd;obtain⟨_,_,_,_,_,_,_,x0,x1,x2,aK,aL,aM,xz,_⟩:=j3.rd;obtain⟨_,_,_,_,_,_,_,y0,y1,y2,aO,aP,aQ,yz,_⟩:=j4.rd;refine wp_region_held_drew (S:=CellL [(⟨s1,0,Y⟩,O pa pm ap),(⟨s1,1,Y⟩,Z ps),(⟨s1,2,Y⟩,O ao ar aq)]) kM cA (fun a=>?_);refine sN 0 ?_
 iterate 2
  refine tkn ?_
 refine oN ?_
 have ai:∀b,b<s1→∀q∈[((⟨s1,0,Y⟩:Addr),Value.slice pa pm ap),(⟨s1,1,Y⟩,Z ps),(⟨s1,2,Y⟩,O ao ar aq)],b≠q.1.block:=by
  intro b hb q hq;simp at hq
  rcases hq with rfl|rfl|rfl<;>(dsimp only;omega)
 refine cl1 (i:=2) fun K d=>?_
 go_simp;refine kO d (CellL.set3d a (ai _ oM) _ _ _) (fun a=>?_);clear d K;refine cl1 (i:=3) fun K d=>?_
 go_simp;refine kO d (CellL.set3d a (ai _ oM) _ _ _) (fun a=>?_);clear d K;refine wpAnyH_done kM ?_ _;obtain⟨W9,ae⟩:=gX ((((((((w5.setCell ⟨w.heap.size+1,0,Y⟩ (O pa pm ap)).setCell ⟨w.heap.size+1,1,Y⟩ (Z ps)).setCell ⟨w.heap.size+1,2,Y⟩ (O ao ar aq)).setCell ⟨w.heap.size+1+1,0,Y⟩ (O pa pm ap)).setCell ⟨w.heap.size+1+1,1,Y⟩ (Z ps)).setCell ⟨w.heap.size+1+1,2,Y⟩ (O ao ar aq))).drew)
 have ej:Ext w W9∧w.heap.size+1+1+1≤W9.heap.size∧W9.heap[w.heap.size]?=J (I #[O a1 n1 m1,O a2 n2 m2,X V lo,X V hi] 120 (0,0))∧RB W9 (w.heap.size+1) q1∧RB W9 (w.heap.size+1+1) q1:=by
  rw [←ae];exact zgt eK.out oM dZ.out j3 j4 hp rfl rfl
 have D:=hd9 ej;obtain⟨X9,z9,K9,-,-⟩:=ej;have dl:=qcB K9 (i:=0) (u:=O a1 n1 m1) rfl;have dm:=qcB K9 (i:=1) (u:=O a2 n2 m2) rfl;have dn:=qcB K9 (i:=2) (u:=X V lo) rfl;have dp:=qcB K9 (i:=3) (u:=X V hi) rfl;rw [ae];clear ae a ai p0 p1 p2 x0 x1 x2 aK aL aM y0 y1 y2 aO aP aQ hp j1 j3 j4 K5 zX X0 X3 dZ K9
 go_wp2_with(((go_at_call 71;(with_reducible refine(HT.out _ X9).mono ?_);rintro e w6 ⟨vq,rfl,cf,t⟩;obtain⟨a7,c7,rfl⟩:=cf.rs.form)))
 obtain⟨n,hn⟩:=gX qs.length;have dh:=cf.rs.le;unfold maxLen at dh;rw [hn]at dh cf HR ⊢;have gh:n≤9223372036854775807:=oM
 have Hn:=hd9 hn;clear hn
 go_loopg [38] n (RcI w s (O a1 n1 m1) (O a2 n2 m2) (O a7 n c7) pin qs (q1,q1))
 case atStart =>
  obtain⟨h1,h2,h3,h4,h5⟩:=D.out;have gi:=t.size
  exact⟨0,by omega,rfl,by rw [Hn.out];rfl,h1.trans t,by omega,by rw [dd,dc];exact t.heapS h3,h4.ext t,h5.ext t,by
   obtain⟨cs,e1,e2,e3⟩:=cf;exact⟨cs,e1.mono oM,e2,e3⟩⟩
 case round =>
  obtain⟨i,fo,rfl,rfl,hI⟩:=hrel;rw [Hn.out]at fo
  by_cases fq:i<n
  ·obtain⟨y1,y2,y3,y4,y5,y6⟩:=hI
   have HI:=hd9 (show RcW w s (O a1 n1 m1) (O a2 n2 m2) (O a7 n c7) qs (reachN (pinG s pin) qs (q1,q1) i) wr from⟨y1,y2,y3,y4,y5,y6⟩);obtain⟨x,hx⟩:∃x,qs[i]?=J x:=⟨qs[i]'(by rw [Hn.out];exact fq),gE _⟩;have bn:=hd9 (Hq.out x (lM hx));have Hx:=hd9 hx;obtain⟨b7,o7,xa,xm,xc,xs,fE,fG,fF,rfl,fc,ey,fH,fI,fJ⟩:=y6.rs.at' hx;rw [dd,dc]at y3;have dl:=qcB y3 (i:=0) (u:=O a1 n1 m1) rfl;have dm:=qcB y3 (i:=1) (u:=O a2 n2 m2) rfl;have dn:=qcB y3 (i:=2) (u:=X V lo) rfl;have dp:=qcB y3 (i:=3) (u:=X V hi) rfl;have zz:w.heap.size<wr.heap.size:=oM
   have Y1:=hd9 y1;have d4:=hd9 ey;have bv:=hd9 (show Rb limR (gapR s x)∧Rb limR (pin:Rat)from⟨zaf (Rb.gap bn.out cz.out) oM,zaf (zkg (k:=1) Hp.out oM) oM⟩);have eO:=hd9 (show (gapR s x-(pin:Rat))=pinG s pin x from rfl);clear y1 y3 y4 y5 y6 D cf dh hx ey;obtain⟨kg,cQ⟩:=gX ((pinG s pin x).num.sign);have d2:=hd9 (fun(W:World) (v:Value) (h:IsR W v (pinG s pin x))=>cQ▸zbp W v _ h);have fp:=zcl (pinG s pin x);rw [cQ]at fp;obtain⟨oi,dL⟩:=gX (reachN (pinG s pin) qs (q1,q1) i);have hN:=zkm (f:=pinG s pin) (o:=(q1,q1)) Hx.out;rw [dL]at hN HI;obtain⟨o1,di⟩:=gX (reachStep (pinG s pin) oi x);rw [di]at hN;have HN:=hd9 hN;have dk:=di.symm;unfold reachStep at dk;rw [cQ]at dk;have da:=hd9 (show Rb 300 oi.1∧Rb 300 oi.2 by rw [←dL];exact Rb.reach_n ⟨ds.out.up dM,ds.out.up dM⟩ Hq.out (fun q hq=>Rb.pin_g (Hq.out q hq) cz.out Hp.out) i (by rw [Hn.out];omega));have db:=hd9 dk;have dr:=hd9 (show Rb 300 o1.1∧Rb 300 o1.2 by rw [←di];unfold reachStep;split;exact Rb.wid da.out (bn.out.up dM);exact da.out);have eM:=hd9 cQ;clear cQ dL dk di hN;have dy:=hd9 (show ∀q∈[oi.1,x],Rb limR q from fun q hq=>by rcases List.mem_cons.1 hq with rfl|hq;exact zaf da.out.1 oM;rw [List.mem_singleton.1 hq];exact zaf bn.out oM);have dz:=hd9 (show ∀q∈[oi.2,x],Rb limR q from fun q hq=>by rcases List.mem_cons.1 hq with rfl|hq;exact zaf da.out.2 oM;rw [List.mem_singleton.1 hq];exact zaf bn.out oM)
   go_upto_if 51 with (first|(go_at_call 105;(with_reducible refine(HG.out _ ?_ (.agg #[O xa xm xc,Z xs,O fE fG fF]) x ?_ bn.out).mono ?_);(refine Y1.out.trans ?_;exact eA);(refine d4.out.ext ?_;exact eA);rintro e w2 ⟨r2,rfl,bM,cU⟩;obtain⟨fZ,gm,f7,gs,f4,gp,gj,rfl⟩:=bM.form;obtain⟨⟨ff,fk⟩,fV⟩:=cK1 w cU)|(go_at_call 59;(with_reducible refine(zaM _ pin cR cS).mono ?_);rintro e w3 ⟨r3,rfl,dP,aw⟩;obtain⟨f0,gn,f8,gt,f5,gq,gk,rfl⟩:=dP.form;obtain⟨⟨fg,fl⟩,fW⟩:=cK1 w aw)|(go_at_call 20;(with_reducible refine(zat _ _ _ (gapR s x) (pin:Rat) (bM.ext aw) dP bv.out.1 bv.out.2).mono ?_);rintro e w4 ⟨r4,rfl,bB,br⟩;rw [eO.out]at bB;obtain⟨f3,go,f9,gu,f6,gr,gl,rfl⟩:=bB.form;obtain⟨⟨fh,fm⟩,fX⟩:=cK1 w br)|(go_at_call 21;(with_reducible refine(d2.out _ _ (bB.ext ?_)).mono ?_);exact eA;rintro e w5 ⟨rfl,bs⟩;obtain⟨⟨fi,fn⟩,fY⟩:=cK1 w bs))
   have aC:RB w5 wr.heap.size x:=(((((RB.new d4.out rfl).ext cU).ext aw).ext br).ext ((eR _).alloc _)).ext bs;have av:RB w5 w4.heap.size (pinG s pin x):=(RB.new bB rfl).ext bs;have X5:Ext wr w5:=(((((((eR wr).alloc _).trans cU).trans aw).trans br).alloc _).trans bs);have G:=HI.out.ext X5;obtain⟨bp,cO⟩:=gX w4.heap.size;obtain⟨bo,cN⟩:=gX wr.heap.size;rw [cO]at av;rw [cN]at aC
   have fs:w.heap.size+1+1+1≤bo∧bo<bp∧bp<w5.heap.size:=by
    have q1:=cU.size;have q2:=aw.size;have q3:=br.size;have q4:=bs.size;simp only [wZ]at q1 q4;have q5:=HI.out.2.1;omega
   obtain⟨z1,z2,z3⟩:=fs;simp only [cN,cO];clear cU aw br bs bM dP bB cN cO ff fk fg fl fh fm fi fn fH fI fJ fc dl dm dn dp zz
   go_cut [10,11,12] (Rc1 w s (O a1 n1 m1) (O a2 n2 m2) (O (J ⟨b7,o7,Y⟩) n c7) qs o1 i x (pinG s pin x))
   case first =>
    by_cases hk:kg≤0
    ·go_wp2
     obtain⟨pa,pm,ap,ps,ao,ar,aq,p0,p1,p2,cW,cX,cY,pz,bV⟩:=(G.2.2.2.1).rd;obtain⟨ea,em,ec,es,aZ,a3,a0,e0,e1,e2,cJ,cK,cL,ez,bU⟩:=(G.2.2.2.2.1).rd;obtain⟨ua,um,uc,us,aF,aH,aG,u0,u1,u2,fz,fA,fB,uz,ba⟩:=(aC).rd;have ag:=hd9 G;have c8:=hd9 (aC);have P:=hd9 av;have bQ:=hd9 bV;have bP:=hd9 bU;have aJ:=hd9 ba;clear G aC av bV bU ba;have D0:Ext w5 w5.drew:=(eR _).drew;refine zaV (fun i=>decide (7<i)) (CellL [(⟨w.heap.size+1,0,Y⟩,O pa pm ap),(⟨w.heap.size+1,1,Y⟩,Z ps),(⟨w.heap.size+1,2,Y⟩,O ao ar aq),(⟨w.heap.size+1+1,0,Y⟩,O ea em ec),(⟨w.heap.size+1+1,1,Y⟩,Z es),(⟨w.heap.size+1+1,2,Y⟩,O aZ a3 a0),(⟨bo,0,Y⟩,O ua um uc),(⟨bo,1,Y⟩,Z us),(⟨bo,2,Y⟩,O aF aH aG)]) kM ?_ (fun a=>?_)
     ·exact cA
     refine sN 0 ?_
     iterate 2
      refine tun ?_
     refine oN ?_;refine sN 4 ?_
     iterate 2
      refine tun ?_
     refine oN ?_;refine callHU2 (i:=2) (j:=6) (fun K d=>?h1k1w1) (fun K d=>?h2k1w1)
     case h1k1w1 =>
      go_simp;refine kO d (fun _=>cE a ((eR _).alloc _)) (fun a=>?_);clear d K;have a:=a rfl;refine callHU2 (i:=3) (j:=6) (fun K d=>?h1k2w1) (fun K d=>?h2k2w1)
      case h1k2w1 =>
       go_simp
       (with_reducible refine cM (zbw _ _ [oi.1,x] ((zaU w5 rfl bQ.out aJ.out).ext' (eR _).drew) dy.out) ?_)
       rintro e w6 ⟨r6,rfl,ak,t⟩;obtain⟨aT,bf,aX,bj,aV,bh,bd,rfl⟩:=ak.form
       go_wp2_with fail
       refine kO d (fun _=>cE a t) (fun a=>?_);clear d K;have a:=a rfl;have D6:Ext w5 w6:=(((eR w5).alloc _).drew).trans t;refine cu1 (i:=6) fun K d=>?_
       go_simp;refine kO d (fun _=>cE a ((eR _).alloc _)) (fun a=>?_);clear d K;have a:=a rfl;refine cu1 (i:=7) fun K d=>?_
       go_simp
       (with_reducible refine cM (zbv _ _ [oi.2,x] (zaU w6 rfl (bP.out.ext D6) (aJ.out.ext D6)) dz.out) ?_)
       rintro e w7 ⟨r7,rfl,al,z⟩;obtain⟨aU,bg,aY,bk,aW,bi,be,rfl⟩:=al.form
       go_wp2_with fail
       refine kO d (fun _=>cE a z) (fun a=>?_);clear d K;have a:=a rfl;obtain⟨_,_,_,_,_,_,_,x0,x1,x2,aK,aL,aM,xz,_⟩:=((ag.out.ext ((D6.alloc _).trans z)).2.2.2.1).rd;obtain⟨_,_,_,_,_,_,_,y0,y1,y2,aO,aP,aQ,yz,_⟩:=((ag.out.ext ((D6.alloc _).trans z)).2.2.2.2.1).rd;refine cu1 (i:=8) fun K d=>?_
       go_simp;refine kO d (fun h=>nomatch h) (fun a=>?_);clear d K;refine cu1 (i:=9) fun K d=>?_
       go_simp;refine kO d (fun h=>nomatch h) (fun a=>?_);clear d K;refine doneHU kM ?_ _;have D:=zfC (i:=i) (ag.out.ext ((D6.alloc _).trans z)) ((ak.ext ((eR _).alloc _)).ext z) al z1 z2 (Nat.lt_of_lt_of_le z3 ((D6.alloc _).trans z).size) (c8.out.ext ((D6.alloc _).trans z)) (P.out.ext ((D6.alloc _).trans z)) rfl rfl;obtain⟨W9,ae⟩:=gX (((((((w7.setCell ⟨w.heap.size+1,0,Y⟩ (O aT bf aX)).setCell ⟨w.heap.size+1,1,Y⟩ (Z bj)).setCell ⟨w.heap.size+1,2,Y⟩ (O aV bh bd)).setCell ⟨w.heap.size+1+1,0,Y⟩ (O aU bg aY)).setCell ⟨w.heap.size+1+1,1,Y⟩ (Z bk)).setCell ⟨w.heap.size+1+1,2,Y⟩ (O aW bi be)));rw [ae]at D ⊢;have D:=hd9 D;clear ae x0 x1 x2 aK aL aM y0 y1 y2 aO aP aQ a;go_wp2;go_meet;rw [db.out,if_pos hk];exact D.out
      case h2k2w1 =>
       go_simp;refine kO d (fun _=>cE a ((eR _).alloc _)) (fun a=>?_);clear d K;have a:=a rfl;refine cu1 (i:=3) fun K d=>?_
       go_simp
       (with_reducible refine cM (zbw _ _ [oi.1,x] ((zaU w5 rfl bQ.out aJ.out).ext' ((eR _).alloc _).drew) dy.out) ?_)
       rintro e w6 ⟨r6,rfl,ak,t⟩;obtain⟨aT,bf,aX,bj,aV,bh,bd,rfl⟩:=ak.form
       go_wp2_with fail
       refine kO d (fun _=>cE a t) (fun a=>?_);clear d K;have a:=a rfl;have D6:Ext w5 w6:=((((eR w5).alloc _).alloc _).drew).trans t;have R2:=(((zaU _ (b:=w5.heap.size+1) sM (bP.out.ext ((eR w5).alloc (I #[O pa pm ap,Z ps,O ao ar aq,O ua um uc,Z us,O aF aH aG] 65))) (aJ.out.ext ((eR w5).alloc _))).ext' (eR _).drew).ext' t);refine cu1 (i:=7) fun K d=>?_
       go_simp
       (with_reducible refine cM (zbv _ _ [oi.2,x] R2 dz.out) ?_)
       rintro e w7 ⟨r7,rfl,al,z⟩;obtain⟨aU,bg,aY,bk,aW,bi,be,rfl⟩:=al.form
       go_wp2_with fail
       refine kO d (fun _=>cE a z) (fun a=>?_);clear d K;have a:=a rfl;obtain⟨_,_,_,_,_,_,_,x0,x1,x2,aK,aL,aM,xz,_⟩:=((ag.out.ext (D6.trans z)).2.2.2.1).rd;obtain⟨_,_,_,_,_,_,_,y0,y1,y2,aO,aP,aQ,yz,_⟩:=((ag.out.ext (D6.trans z)).2.2.2.2.1).rd;refine cu1 (i:=8) fun K d=>?_
       go_simp;refine kO d (fun h=>nomatch h) (fun a=>?_);clear d K;refine cu1 (i:=9) fun K d=>?_
       go_simp;refine kO d (fun h=>nomatch h) (fun a=>?_);clear d K;refine doneHU kM ?_ _;have D:=zfC (i:=i) (ag.out.ext (D6.trans z)) (ak.ext z) al z1 z2 (Nat.lt_of_lt_of_le z3 (D6.trans z).size) (c8.out.ext (D6.trans z)) (P.out.ext (D6.trans z)) rfl rfl;obtain⟨W9,ae⟩:=gX (((((((w7.setCell ⟨w.heap.size+1,0,Y⟩ (O aT bf aX)).setCell ⟨w.heap.size+1,1,Y⟩ (Z bj)).setCell ⟨w.heap.size+1,2,Y⟩ (O aV bh bd)).setCell ⟨w.heap.size+1+1,0,Y⟩ (O aU bg aY)).setCell ⟨w.heap.size+1+1,1,Y⟩ (Z bk)).setCell ⟨w.heap.size+1+1,2,Y⟩ (O aW bi be)));rw [ae]at D ⊢;have D:=hd9 D;clear ae x0 x1 x2 aK aL aM y0 y1 y2 aO aP aQ a;go_wp2;go_meet;rw [db.out,if_pos hk];exact D.out
     case h2k1w1 =>
      go_simp;refine kO d (fun _=>cE a ((eR _).alloc _)) (fun a=>?_);clear d K;have a:=a rfl;refine cu1 (i:=2) fun K d=>?_
      go_simp;refine kO d (fun _=>cE a ((eR _).alloc _)) (fun a=>?_);clear d K;have a:=a rfl;have R1:=((zaU _ (b:=w5.heap.size+1) sM (bQ.out.ext ((eR w5).alloc (I #[O ea em ec,Z es,O aZ a3 a0,O ua um uc,Z us,O aF aH aG] 65))) (aJ.out.ext ((eR w5).alloc _))).ext' (eR _).drew);refine cu1 (i:=3) fun K d=>?_
      go_simp
      (with_reducible refine cM (zbw _ _ [oi.1,x] R1 dy.out) ?_)
      rintro e w6 ⟨r6,rfl,ak,t⟩;obtain⟨aT,bf,aX,bj,aV,bh,bd,rfl⟩:=ak.form
      go_wp2_with fail
      refine kO d (fun _=>cE a t) (fun a=>?_);clear d K;have a:=a rfl;have D6:Ext w5 w6:=((((eR w5).alloc _).alloc _).drew).trans t;refine cu1 (i:=7) fun K d=>?_
      go_simp
      (with_reducible refine cM (zbv _ _ [oi.2,x] (((zaU w5 rfl bP.out aJ.out).ext' ((eR _).alloc _).drew).ext' t) dz.out) ?_)
      rintro e w7 ⟨r7,rfl,al,z⟩;obtain⟨aU,bg,aY,bk,aW,bi,be,rfl⟩:=al.form
      go_wp2_with fail
      refine kO d (fun _=>cE a z) (fun a=>?_);clear d K;have a:=a rfl;obtain⟨_,_,_,_,_,_,_,x0,x1,x2,aK,aL,aM,xz,_⟩:=((ag.out.ext (D6.trans z)).2.2.2.1).rd;obtain⟨_,_,_,_,_,_,_,y0,y1,y2,aO,aP,aQ,yz,_⟩:=((ag.out.ext (D6.trans z)).2.2.2.2.1).rd;refine cu1 (i:=8) fun K d=>?_
      go_simp;refine kO d (fun h=>nomatch h) (fun a=>?_);clear d K;refine cu1 (i:=9) fun K d=>?_
      go_simp;refine kO d (fun h=>nomatch h) (fun a=>?_);clear d K;refine doneHU kM ?_ _;have D:=zfC (i:=i) (ag.out.ext (D6.trans z)) (ak.ext z) al z1 z2 (Nat.lt_of_lt_of_le z3 (D6.trans z).size) (c8.out.ext (D6.trans z)) (P.out.ext (D6.trans z)) rfl rfl;obtain⟨W9,ae⟩:=gX (((((((w7.setCell ⟨w.heap.size+1,0,Y⟩ (O aT bf aX)).setCell ⟨w.heap.size+1,1,Y⟩ (Z bj)).setCell ⟨w.heap.size+1,2,Y⟩ (O aV bh bd)).setCell ⟨w.heap.size+1+1,0,Y⟩ (O aU bg aY)).setCell ⟨w.heap.size+1+1,1,Y⟩ (Z bk)).setCell ⟨w.heap.size+1+1,2,Y⟩ (O aW bi be)));rw [ae]at D ⊢;have D:=hd9 D;clear ae x0 x1 x2 aK aL aM y0 y1 y2 aO aP aQ a;go_wp2;go_meet;rw [db.out,if_pos hk];exact D.out
    ·go_wp2
     go_meet;rw [db.out,if_neg oM];exact⟨bo,bp,rfl,rfl,rfl,z1,z2,z3,G,aC,av⟩
   case rest =>
    clear aC av G X5 z1 z2 z3 bo bp;obtain⟨bo,bp,rfl,rfl,rfl,z1,z2,z3,G,aC,av⟩:=hcut
    by_cases eo:i=0
    ·subst eo
     go_wp2
     go_roundg (n-(0+1))
     case measure=>have:=Hn.out;omega
     case rel=>exact⟨1,by rw [Hn.out];omega,by go_num,by rw [Hn.out],by have e:reachN (pinG s pin) qs (q1,q1) 1=o1:=HN.out.trans (if_pos trivial);rw [e];exact G⟩
    ·have gc:((i:Int)==0)=false:=by simpa using eo
     go_upto_region 13 with fail
     obtain⟨j,rfl⟩:∃j,i=j+1:=⟨i-1,by omega⟩;obtain⟨y,hy⟩:∃y,qs[j]?=J y:=⟨qs[j]'(by rw [Hn.out];omega),gE _⟩;have bT:=hd9 (Hq.out y (lM hy));have Hy:=hd9 hy;have bw:=hd9 (show Rb limR (gapR s y)from zaf (Rb.gap bT.out cz.out) oM);obtain⟨b8,o8,ya,ym,yc,ys,c1,c3,c2,h8,ga,eB,fK,fL,fM⟩:=G.2.2.2.2.2.rs.at' hy
     cases h8
     have ce:=G.2.2.1;rw [dd,dc]at ce;have dl:=qcB ce (i:=0) (u:=O a1 n1 m1) rfl;have dm:=qcB ce (i:=1) (u:=O a2 n2 m2) rfl;have dn:=qcB ce (i:=2) (u:=X V lo) rfl;have dp:=qcB ce (i:=3) (u:=X V hi) rfl;have Yc:=hd9 (G.1);have eQ:=hd9 eB;have cw:=hd9 G;have af:=hd9 aC;have P:=hd9 av
     have ge:wrap64 (((j+1:Nat):Int)-1)=(j:Int):=by
      rw [IntWalk.wrap64_in _ oM];omega
     have gd:IntKind.i64.wrap ((j:Nat):Int)=(j:Int):=iW _ ⟨by omega,by omega⟩;have gv:(0:Int)≤(j:Int):=oM
     have gw:(j:Int)<(n:Int):=oM
     have gx:j<n:=oM
     clear G aC av ce eB hy
     go_cut [10,11,12,13] (Rc2 w s (O a1 n1 m1) (O a2 n2 m2) (O (J ⟨b7,o7,Y⟩) n c7) qs o1 (j+1) x (pinG s pin x) (pinG s pin y))
     case first =>
      refine wp_region_held_drew (S:=(CellL [(⟨w.heap.size,0,Y⟩,O a1 n1 m1),(⟨w.heap.size,1,Y⟩,O a2 n2 m2),(⟨w.heap.size,2,Y⟩,X V lo),(⟨w.heap.size,3,Y⟩,X V hi),(⟨b7,o7+j*3,Y⟩,O ya ym yc),(⟨b7,o7+j*3+1,Y⟩,Z ys),(⟨b7,o7+j*3+2,Y⟩,O c1 c3 c2)])) kM cA (fun a=>?_);refine sN 0 ?_
      iterate 6
       refine tkn ?_
      refine oN ?_;refine tk1 (i:=7) ?_;have E0:Ext wc wc.drew:=(eR _).drew;have dY:=hd9 (fun(W:World) (hW:Ext wc W)=>HG.out W (Yc.out.trans hW) (.agg #[O ya ym yc,Z ys,O c1 c3 c2]) y (eQ.out.ext hW) bT.out);refine call2 (i:=6) (j:=10) (fun K d=>?h1g1) (fun K d=>?h2g1)
      case h1g1 =>
       go_simp
       (with_reducible refine cM (dY.out _ E0) ?_)
       rintro e w6 ⟨fw,rfl,a9,t⟩;obtain⟨eU,fu,e8,fy,e7,fv,ft,rfl⟩:=a9.form
       go_wp2_with fail
       refine kO d (cE a t) (fun a=>?_);clear d K;have dW:=t.size;simp only [qdZ]at dW;refine call2 (i:=8) (j:=10) (fun K d=>?h1g2) (fun K d=>?h2g2)
       case h1g2 =>
        go_simp
        (with_reducible refine cM (zaM _ pin cR cS) ?_)
        rintro e w8 ⟨eF,rfl,aE,l⟩;obtain⟨d5,eD,eg,eH,ef,eE,eC,rfl⟩:=aE.form
        go_wp2_with fail
        refine kO d (cE a l) (fun a=>?_);clear d K;have bX:=l.size;refine call2 (i:=9) (j:=10) (fun K d=>?h1g3) (fun K d=>?h2g3)
        case h1g3 =>
         go_simp
         (with_reducible refine cM (zat _ _ _ (gapR s y) (pin:Rat) (a9.ext l) aE bw.out bv.out.2) ?_)
         rintro e w9 ⟨dU,rfl,am,g⟩;obtain⟨dD,dR,dG,dV,dF,dS,cV,rfl⟩:=am.form
         go_wp2_with fail
         refine kO d (cE a g) (fun a=>?_);clear d K;have bu:=g.size;have dH:=a;have EA:=((E0.trans t).trans l).trans g;refine cl1 (i:=10) fun K d=>?_
         go_simp;refine kO d (cE a ((eR _).alloc _)) (fun a=>?_);clear d K;refine cl1 (i:=11) fun K d=>?_
         go_simp;refine kO d (cE dH ((eR _).alloc _)) (fun a=>?_);clear d K;refine wpAnyH_done kM ?_ _;go_wp2;go_meet;have zE:=EA.size;exact⟨w9.heap.size,⟨bo,bp,rfl,rfl,rfl,z1,z2,by simp only [wZ];omega,cw.out.ext (EA.alloc _),af.out.ext (EA.alloc _),P.out.ext (EA.alloc _)⟩,rfl,by simp,RB.new am rfl⟩
        case h2g3 =>
         go_simp;refine kO d (cE a ((eR _).alloc _)) (fun a=>?_);clear d K;refine cl1 (i:=9) fun K d=>?_
         go_simp
         (with_reducible refine cM (zat _ _ _ (gapR s y) (pin:Rat) ((a9.ext l).ext ((eR _).alloc _)) (aE.ext ((eR _).alloc _)) bw.out bv.out.2) ?_)
         rintro e w9 ⟨dU,rfl,am,g⟩;obtain⟨dD,dR,dG,dV,dF,dS,cV,rfl⟩:=am.form
         go_wp2_with fail
         refine kO d (cE a g) (fun a=>?_);clear d K;have bu:=g.size;simp only [wZ]at bu;have bL:bp<w8.heap.size:=oM
         have aR:=((RB.new (IsR.zero _) rfl).ext g:RB w9 w8.heap.size 0);have bW:w8.heap.size<(w9).heap.size:=oM
         obtain⟨_,_,_,_,_,_,_,q0,ax,ay,az,aA,aB,qz,_⟩:=(show RB (w9) (w8.heap.size) 0 from aR).rd
         have ai:∀q∈[((⟨w.heap.size,0,Y⟩:Addr),Value.slice a1 n1 m1),(⟨w.heap.size,1,Y⟩,O a2 n2 m2),(⟨w.heap.size,2,Y⟩,X V lo),(⟨w.heap.size,3,Y⟩,X V hi),(⟨b7,o7+j*3,Y⟩,O ya ym yc),(⟨b7,o7+j*3+1,Y⟩,Z ys),(⟨b7,o7+j*3+2,Y⟩,O c1 c3 c2)],w8.heap.size≠q.1.block:=by
          intro q hq;simp at hq
          rcases hq with rfl|rfl|rfl|rfl|rfl|rfl|rfl<;>(dsimp only;omega)
         refine cl1 (i:=11) fun K d=>?_
         go_simp;refine kO d (CellL.set3 a ai _ _ _) (fun a=>?_);clear d K;refine wpAnyH_done kM ?_ _;have D:=zcd (i:=j+1) (cw.out.ext ((((E0.trans t).trans l).alloc _).trans g)) (am) z1 z2 bL bW (af.out.ext ((((E0.trans t).trans l).alloc _).trans g)) (P.out.ext ((((E0.trans t).trans l).alloc _).trans g)) aR (by simp only [Value.ownBlock,ne_eq,Option.some.injEq];omega) rfl;have D:=hd9 D;clear a q0 ax ay az aA aB;go_wp2;go_meet;exact D.out
       case h2g2 =>
        go_simp;refine kO d (cE a ((eR _).alloc _)) (fun a=>?_);clear d K;refine cl1 (i:=8) fun K d=>?_
        go_simp
        (with_reducible refine cM (zaM _ pin cR cS) ?_)
        rintro e w8 ⟨eF,rfl,aE,l⟩;obtain⟨d5,eD,eg,eH,ef,eE,eC,rfl⟩:=aE.form
        go_wp2_with fail
        refine kO d (cE a l) (fun a=>?_);clear d K;have bX:=l.size;simp only [wZ]at bX;refine cl1 (i:=9) fun K d=>?_
        go_simp
        (with_reducible refine cM (zat _ _ _ (gapR s y) (pin:Rat) ((a9.ext ((eR _).alloc _)).ext l) aE bw.out bv.out.2) ?_)
        rintro e w9 ⟨dU,rfl,am,g⟩;obtain⟨dD,dR,dG,dV,dF,dS,cV,rfl⟩:=am.form
        go_wp2_with fail
        refine kO d (cE a g) (fun a=>?_);clear d K;have bu:=g.size;have bL:bp<w6.heap.size:=oM
        have aR:=(((RB.new (IsR.zero _) rfl).ext l).ext g:RB w9 w6.heap.size 0);have bW:w6.heap.size<(w9).heap.size:=oM
        obtain⟨_,_,_,_,_,_,_,q0,ax,ay,az,aA,aB,qz,_⟩:=(show RB (w9) (w6.heap.size) 0 from aR).rd
        have ai:∀q∈[((⟨w.heap.size,0,Y⟩:Addr),Value.slice a1 n1 m1),(⟨w.heap.size,1,Y⟩,O a2 n2 m2),(⟨w.heap.size,2,Y⟩,X V lo),(⟨w.heap.size,3,Y⟩,X V hi),(⟨b7,o7+j*3,Y⟩,O ya ym yc),(⟨b7,o7+j*3+1,Y⟩,Z ys),(⟨b7,o7+j*3+2,Y⟩,O c1 c3 c2)],w6.heap.size≠q.1.block:=by
         intro q hq;simp at hq
         rcases hq with rfl|rfl|rfl|rfl|rfl|rfl|rfl<;>(dsimp only;omega)
        refine cl1 (i:=11) fun K d=>?_
        go_simp;refine kO d (CellL.set3 a ai _ _ _) (fun a=>?_);clear d K;refine wpAnyH_done kM ?_ _;have D:=zcd (i:=j+1) (cw.out.ext ((((E0.trans t).alloc _).trans l).trans g)) (am) z1 z2 bL bW (af.out.ext ((((E0.trans t).alloc _).trans l).trans g)) (P.out.ext ((((E0.trans t).alloc _).trans l).trans g)) aR (by simp only [Value.ownBlock,ne_eq,Option.some.injEq];omega) rfl;have D:=hd9 D;clear a q0 ax ay az aA aB;go_wp2;go_meet;exact D.out
      case h2g1 =>
       go_simp;refine kO d (cE a ((eR _).alloc _)) (fun a=>?_);clear d K;refine cl1 (i:=6) fun K d=>?_
       go_simp
       (with_reducible refine cM (dY.out _ ((eR wc).alloc _).drew) ?_)
       rintro e w6 ⟨fw,rfl,a9,t⟩;obtain⟨eU,fu,e8,fy,e7,fv,ft,rfl⟩:=a9.form
       go_wp2_with fail
       refine kO d (cE a t) (fun a=>?_);clear d K;have dW:=t.size;simp only [wZ,qdZ]at dW;refine cl1 (i:=8) fun K d=>?_
       go_simp
       (with_reducible refine cM (zaM _ pin cR cS) ?_)
       rintro e w8 ⟨eF,rfl,aE,l⟩;obtain⟨d5,eD,eg,eH,ef,eE,eC,rfl⟩:=aE.form
       go_wp2_with fail
       refine kO d (cE a l) (fun a=>?_);clear d K;have bX:=l.size;refine cl1 (i:=9) fun K d=>?_
       go_simp
       (with_reducible refine cM (zat _ _ _ (gapR s y) (pin:Rat) (a9.ext l) aE bw.out bv.out.2) ?_)
       rintro e w9 ⟨dU,rfl,am,g⟩;obtain⟨dD,dR,dG,dV,dF,dS,cV,rfl⟩:=am.form
       go_wp2_with fail
       refine kO d (cE a g) (fun a=>?_);clear d K;have bu:=g.size;have bL:bp<wc.heap.size:=oM
       have aR:=((((RB.new (IsR.zero _) rfl).ext ((eR _).drew.trans t)).ext l).ext g:RB w9 wc.heap.size 0);have bW:wc.heap.size<(w9).heap.size:=oM
       obtain⟨_,_,_,_,_,_,_,q0,ax,ay,az,aA,aB,qz,_⟩:=(show RB (w9) (wc.heap.size) 0 from aR).rd
       have ai:∀q∈[((⟨w.heap.size,0,Y⟩:Addr),Value.slice a1 n1 m1),(⟨w.heap.size,1,Y⟩,O a2 n2 m2),(⟨w.heap.size,2,Y⟩,X V lo),(⟨w.heap.size,3,Y⟩,X V hi),(⟨b7,o7+j*3,Y⟩,O ya ym yc),(⟨b7,o7+j*3+1,Y⟩,Z ys),(⟨b7,o7+j*3+2,Y⟩,O c1 c3 c2)],wc.heap.size≠q.1.block:=by
        intro q hq;simp at hq
        rcases hq with rfl|rfl|rfl|rfl|rfl|rfl|rfl<;>(dsimp only;omega)
       refine cl1 (i:=11) fun K d=>?_
       go_simp;refine kO d (CellL.set3 a ai _ _ _) (fun a=>?_);clear d K;refine wpAnyH_done kM ?_ _;have D:=zcd (i:=j+1) (cw.out.ext (((((eR wc).alloc _).drew.trans t).trans l).trans g)) (am) z1 z2 bL bW (af.out.ext (((((eR wc).alloc _).drew.trans t).trans l).trans g)) (P.out.ext (((((eR wc).alloc _).drew.trans t).trans l).trans g)) aR (by simp only [Value.ownBlock,ne_eq,Option.some.injEq];omega) rfl;have D:=hd9 D;clear a q0 ax ay az aA aB;go_wp2;go_meet;exact D.out
     case rest =>
      clear z1 z2 z3 af P cw fK fL fM dl dm dn dp;obtain⟨ad,⟨ah,Q,rfl,rfl,rfl,z1,z2,z3,G,aC,av⟩,rfl,bW,dt⟩:=hcut;obtain⟨pa,pm,ap,ps,ao,ar,aq,p0,p1,p2,cW,cX,cY,pz,bV⟩:=av.rd;obtain⟨ea,em,ec,es,aZ,a3,a0,e0,e1,e2,cJ,cK,cL,ez,bU⟩:=dt.rd;obtain⟨kh,dg⟩:=gX ((pinG s pin y).num.sign);have eJ:=hd9 (fun(W:World) (v:Value) (h:IsR W v (pinG s pin y))=>dg▸zbp W v _ h);have ep:=zcl (pinG s pin y);rw [dg]at ep;have eN:=hd9 dg;clear dg;obtain⟨km,dK⟩:=gX (kg*kh)
      have fQ : -1≤km∧km≤1:=by
       have a1:kg = -1∨kg=0∨kg=1:=oM
       have a2:kh = -1∨kh=0∨kh=1:=oM
       rcases a1 with rfl|rfl|rfl<;>rcases a2 with rfl|rfl|rfl<;>omega
      have gg:IntKind.i64.wrap (kg*kh)=km:=by rw [dK];exact iW _ ⟨by omega,by omega⟩
      have fR:wrap64 (kg*kh)=km:=by rw [dK];exact IntWalk.wrap64_in _ ⟨by omega,by omega⟩
      have gf:IntKind.i64.wrap km=km:=iW _ ⟨by omega,by omega⟩
      have d1:=hd9 (show reachN (pinG s pin) qs (q1,q1) (j+1+1)=if km<0 then widR o1 (crossR (pinG s pin) y x)else o1 by
       have e:=HN.out;rw [if_neg oM]at e;rw [e,show qs.getD (j+1-1) 0=y by rw [Nat.add_sub_cancel,gD,Hy.out];rfl];unfold reachCross;rw [eM.out,eN.out,dK])
      go_wp2;refine wp_region_held_drew (S:=CellL [(⟨Q,0,Y⟩,O pa pm ap),(⟨Q,1,Y⟩,Z ps),(⟨Q,2,Y⟩,O ao ar aq),(⟨ad,0,Y⟩,O ea em ec),(⟨ad,1,Y⟩,Z es),(⟨ad,2,Y⟩,O aZ a3 a0)]) kM cA (fun a=>?_);have E1:Ext wc wc.drew:=(eR _).drew;refine tk1 (i:=0) ?_;refine tk1 (i:=2) ?_;refine cl1 (i:=1) fun K d=>?_
      go_simp
      (with_reducible refine cM (d2.out _ _ (bV.ext E1)) ?_)
      rintro e w1 ⟨rfl,bb⟩
      skip
      go_wp2_with fail
      refine kO d (cE a bb) (fun a=>?_);clear d K;refine cl1 (i:=3) fun K d=>?_
      go_simp
      (with_reducible refine cM (eJ.out _ _ (bU.ext (E1.trans bb))) ?_)
      rintro e w3 ⟨rfl,aw⟩
      skip
      go_wp2_with fail
      refine kO d (cE a aw) (fun a=>?_);clear d K;refine sN 4 ?_
      iterate 2
       refine tkn ?_
      refine oN ?_;refine wpAnyH_done kM ?_ _;have X3:Ext wc w3:=E1.trans (bb.trans aw);have G3:=G.ext X3;clear a p0 p1 p2 cW cX cY e0 e1 e2 cJ cK cL
      by_cases a8:km<0
      ·have fr:decide (km<0)=true:=by simpa using a8
       have ex:=X3.size;have ct:=aC.ext X3;have cu:=av.ext X3;have dq:=dt.ext X3;obtain⟨ua,um,uc,us,aF,aH,aG,u0,u1,u2,_,_,_,uz,ba⟩:=ct.rd;obtain⟨va,vm,vc,vs,cl,cn,cm,v0,fC,fD,_,_,_,vz,dQ⟩:=cu.rd;obtain⟨ta,tm,tc,ts,ci,ck,cj,t0,t1,t2,_,_,_,tz,ch⟩:=dq.rd;obtain⟨b9,o9,za,zm,zc,zs,cp,cr,cq,h9,gb,bc,fN,fO,fP⟩:=G3.2.2.2.2.2.rs.at' Hy.out
       cases h9
       have bO:=hd9 G3;have af:=hd9 ct;have P:=hd9 cu;have cP:Rb 47 (pinG s pin y):=Rb.pin_g bT.out cz.out Hp.out;have de:Rb 47 (pinG s pin x):=Rb.pin_g bn.out cz.out Hp.out;have dI:Rb 95 (pinG s pin y-pinG s pin x):=cP.sub de;have dJ:Rb 142 (pinG s pin y / (pinG s pin y-pinG s pin x)):=cP.div dI dM;have en:Rb 145 (pinG s pin y / (pinG s pin y-pinG s pin x)*(x-y)):=dJ.mul (bn.out.sub bT.out);have cy:=hd9 (show Rb limR (pinG s pin y)from zaf cP oM);have d0:=hd9 (show Rb limR (pinG s pin x)from zaf de oM);have dw:=hd9 (show Rb limR (pinG s pin y-pinG s pin x)from zaf dI oM);have cx:=hd9 (show Rb limR (pinG s pin y / (pinG s pin y-pinG s pin x))from zaf dJ oM);have cd:=hd9 (show Rb limR (pinG s pin y / (pinG s pin y-pinG s pin x)*(x-y))from zaf en oM);have bC:=hd9 (show Rb limR (x-y)from zaf (bn.out.sub bT.out) oM);have bY:=hd9 (show Rb limR x from zaf bn.out oM);have au:=hd9 (show Rb limR y from zaf bT.out oM);have c9:=hd9 (show reachN (pinG s pin) qs (q1,q1) (j+1+1)=widR o1 (crossR (pinG s pin) y x) by rw [d1.out,if_pos a8]);have dx:=hd9 (show Rb 291 (crossR (pinG s pin) y x)from Rb.cross bT.out bn.out cP de);clear G3 ct cu dq cP de dI dJ en aC av dt G bb aw
       go_upto_region 15 with fail
       go_cut [10,11,12,14] (Rc2 w s (O a1 n1 m1) (O a2 n2 m2) (O (J ⟨b7,o7,Y⟩) n c7) qs o1 (j+1) x (pinG s pin x) (crossR (pinG s pin) y x))
       case first =>
        refine wp_region_held_drew (S:=CellL [(⟨b7,o7+j*3,Y⟩,O za zm zc),(⟨b7,o7+j*3+1,Y⟩,Z zs),(⟨b7,o7+j*3+2,Y⟩,O cp cr cq),(⟨ad,0,Y⟩,O ta tm tc),(⟨ad,1,Y⟩,Z ts),(⟨ad,2,Y⟩,O ci ck cj),(⟨Q,0,Y⟩,O va vm vc),(⟨Q,1,Y⟩,Z vs),(⟨Q,2,Y⟩,O cl cn cm),(⟨ah,0,Y⟩,O ua um uc),(⟨ah,1,Y⟩,Z us),(⟨ah,2,Y⟩,O aF aH aG)]) kM cA (fun a=>?_);refine sN 0 ?_
        iterate 8
         refine tkn ?_
        refine oN ?_;refine sN 10 ?_
        iterate 6
         refine tkn ?_
        refine oN ?_;refine call2 (i:=8) (j:=19) (fun K d=>?h1q1) (fun K d=>?h2q1)
        case h1q1 =>
         go_simp
         (with_reducible refine cM (zat _ _ _ (pinG s pin y) (pinG s pin x) (ch.ext ((eR w3).drew)) (dQ.ext ((eR w3).drew)) cy.out d0.out) ?_)
         rintro e c0 ⟨fx,rfl,cg,l⟩;obtain⟨eV,e4,eY,e6,eW,e5,eZ,rfl⟩:=cg.form
         go_wp2_with fail
         refine kO d (cE a l) (fun a=>?_);clear d K;have bX:=l.size
         try simp only [wZ,qdZ]at bX
         refine call2 (i:=9) (j:=19) (fun K d=>?h1q2) (fun K d=>?h2q2)
         case h1q2 =>
          go_simp
          (with_reducible refine cM (zbF _ _ _ (pinG s pin y) ((pinG s pin y)-(pinG s pin x)) (ch.ext (((eR w3).drew).trans l)) (cg.ext (eR _)) cy.out dw.out) ?_)
          rintro e co ⟨eG,rfl,bq,g⟩;obtain⟨d6,eb,d8,ee,d7,ed,d9,rfl⟩:=bq.form
          go_wp2_with fail
          refine kO d (cE a g) (fun a=>?_);clear d K;have bu:=g.size
          try simp only [wZ,qdZ]at bu
          refine call2 (i:=16) (j:=19) (fun K d=>?h1q3) (fun K d=>?h2q3)
          case h1q3 =>
           go_simp
           (with_reducible refine cM (zat _ _ _ x y (ba.ext ((((eR w3).drew).trans l).trans g)) (bc.ext ((((eR w3).drew).trans l).trans g)) bY.out au.out) ?_)
           rintro e bl ⟨cZ,rfl,aj,m⟩;obtain⟨cB,cG,cD,cI,cC,cH,cF,rfl⟩:=aj.form
           go_wp2_with fail
           refine kO d (cE a m) (fun a=>?_);clear d K;have bm:=m.size
           try simp only [wZ,qdZ]at bm
           refine call2 (i:=17) (j:=19) (fun K d=>?h1q4) (fun K d=>?h2q4)
           case h1q4 =>
            go_simp
            (with_reducible refine cM (zbx _ _ _ ((pinG s pin y) / ((pinG s pin y)-(pinG s pin x))) (x-y) (bq.ext ((eR _).trans m)) (aj.ext (eR _)) cx.out bC.out) ?_)
            rintro e aS ⟨cc,rfl,ab,p⟩;obtain⟨bZ,b3,b1,cb,b0,ca,b2,rfl⟩:=ab.form
            go_wp2_with fail
            refine kO d (cE a p) (fun a=>?_);clear d K;have aI:=p.size
            try simp only [wZ,qdZ]at aI
            refine call2 (i:=18) (j:=19) (fun K d=>?h1q5) (fun K d=>?h2q5)
            case h1q5 =>
             go_simp
             (with_reducible refine cM (zaZ _ _ _ y ((pinG s pin y) / ((pinG s pin y)-(pinG s pin x))*(x-y)) (bc.ext ((((((eR w3).drew).trans l).trans g).trans m).trans p)) (ab.ext (eR _)) au.out cd.out) ?_)
             rintro e aa ⟨bN,rfl,T,r⟩;obtain⟨bD,bH,bF,bJ,bE,bI,bG,rfl⟩:=T.form
             go_wp2_with fail
             refine kO d (cE a r) (fun a=>?_);clear d K;have an:=r.size
             try simp only [wZ,qdZ]at an
             have dH:=a;have EA:=(((((((eR w3).drew).trans l).trans g).trans m).trans p).trans r);refine cl1 (i:=19) fun K d=>?_
             go_simp;refine kO d (cE a ((eR _).alloc _)) (fun a=>?_);clear d K;refine cl1 (i:=20) fun K d=>?_
             go_simp;refine kO d (cE dH ((eR _).alloc _)) (fun a=>?_);clear d K;refine wpAnyH_done kM ?_ _;go_wp2;go_meet;have zE:=EA.size;exact⟨aa.heap.size,⟨ah,Q,rfl,rfl,rfl,z1,z2,by simp only [wZ];omega,bO.out.ext (EA.alloc _),af.out.ext (EA.alloc _),P.out.ext (EA.alloc _)⟩,rfl,by simp,RB.new T rfl⟩
            case h2q5 =>
             go_simp;refine kO d (cE a ((eR _).alloc _)) (fun a=>?_);clear d K;refine cl1 (i:=18) fun K d=>?_
             go_simp
             (with_reducible refine cM (zaZ _ _ _ y ((pinG s pin y) / ((pinG s pin y)-(pinG s pin x))*(x-y)) (bc.ext (((((((eR w3).drew).trans l).trans g).trans m).trans p).alloc _)) (ab.ext ((eR _).alloc _)) au.out cd.out) ?_)
             rintro e aa ⟨bN,rfl,T,r⟩;obtain⟨bD,bH,bF,bJ,bE,bI,bG,rfl⟩:=T.form
             go_wp2_with fail
             refine kO d (cE a r) (fun a=>?_);clear d K;have an:=r.size
             try simp only [wZ,qdZ]at an
             have aD:Q<aS.heap.size:=oM
             have ac:RB aa aS.heap.size 0:=((RB.new (IsR.zero _) rfl).ext r);have bt:aS.heap.size<aa.heap.size:=oM
             obtain⟨_,_,_,_,_,_,_,q0,ax,ay,az,aA,aB,qz,_⟩:=ac.rd
             have ai:∀q∈[((⟨b7,o7+j*3,Y⟩:Addr),Value.slice za zm zc),(⟨b7,o7+j*3+1,Y⟩,Z zs),(⟨b7,o7+j*3+2,Y⟩,O cp cr cq),(⟨ad,0,Y⟩,O ta tm tc),(⟨ad,1,Y⟩,Z ts),(⟨ad,2,Y⟩,O ci ck cj),(⟨Q,0,Y⟩,O va vm vc),(⟨Q,1,Y⟩,Z vs),(⟨Q,2,Y⟩,O cl cn cm),(⟨ah,0,Y⟩,O ua um uc),(⟨ah,1,Y⟩,Z us),(⟨ah,2,Y⟩,O aF aH aG)],aS.heap.size≠q.1.block:=by
              intro q hq;simp at hq
              rcases hq with rfl|rfl|rfl|rfl|rfl|rfl|rfl|rfl|rfl|rfl|rfl|rfl<;>(dsimp only;omega)
             refine cl1 (i:=20) fun K d=>?_
             go_simp;refine kO d (CellL.set3 a ai _ _ _) (fun a=>?_);clear d K;refine wpAnyH_done kM ?_ _;have D:=zcd (i:=j+1) (bO.out.ext ((((((((eR w3).drew).trans l).trans g).trans m).trans p).alloc _).trans r)) T z1 z2 aD bt (af.out.ext ((((((((eR w3).drew).trans l).trans g).trans m).trans p).alloc _).trans r)) (P.out.ext ((((((((eR w3).drew).trans l).trans g).trans m).trans p).alloc _).trans r)) ac (by simp only [Value.ownBlock,ne_eq,Option.some.injEq];omega) rfl;have D:=hd9 D;clear a q0 ax ay az aA aB;go_wp2;go_meet;exact D.out
           case h2q4 =>
            go_simp;refine kO d (cE a ((eR _).alloc _)) (fun a=>?_);clear d K;refine cl1 (i:=17) fun K d=>?_
            go_simp
            (with_reducible refine cM (zbx _ _ _ ((pinG s pin y) / ((pinG s pin y)-(pinG s pin x))) (x-y) (bq.ext (((eR _).trans m).alloc _)) (aj.ext ((eR _).alloc _)) cx.out bC.out) ?_)
            rintro e aS ⟨cc,rfl,ab,p⟩;obtain⟨bZ,b3,b1,cb,b0,ca,b2,rfl⟩:=ab.form
            go_wp2_with fail
            refine kO d (cE a p) (fun a=>?_);clear d K;have aI:=p.size
            try simp only [wZ,qdZ]at aI
            refine cl1 (i:=18) fun K d=>?_
            go_simp
            (with_reducible refine cM (zaZ _ _ _ y ((pinG s pin y) / ((pinG s pin y)-(pinG s pin x))*(x-y)) (bc.ext (((((((eR w3).drew).trans l).trans g).trans m).alloc _).trans p)) (ab.ext (eR _)) au.out cd.out) ?_)
            rintro e aa ⟨bN,rfl,T,r⟩;obtain⟨bD,bH,bF,bJ,bE,bI,bG,rfl⟩:=T.form
            go_wp2_with fail
            refine kO d (cE a r) (fun a=>?_);clear d K;have an:=r.size
            try simp only [wZ,qdZ]at an
            have aD:Q<bl.heap.size:=oM
            have ac:RB aa bl.heap.size 0:=(((RB.new (IsR.zero _) rfl).ext p).ext r);have bt:bl.heap.size<aa.heap.size:=oM
            obtain⟨_,_,_,_,_,_,_,q0,ax,ay,az,aA,aB,qz,_⟩:=ac.rd
            have ai:∀q∈[((⟨b7,o7+j*3,Y⟩:Addr),Value.slice za zm zc),(⟨b7,o7+j*3+1,Y⟩,Z zs),(⟨b7,o7+j*3+2,Y⟩,O cp cr cq),(⟨ad,0,Y⟩,O ta tm tc),(⟨ad,1,Y⟩,Z ts),(⟨ad,2,Y⟩,O ci ck cj),(⟨Q,0,Y⟩,O va vm vc),(⟨Q,1,Y⟩,Z vs),(⟨Q,2,Y⟩,O cl cn cm),(⟨ah,0,Y⟩,O ua um uc),(⟨ah,1,Y⟩,Z us),(⟨ah,2,Y⟩,O aF aH aG)],bl.heap.size≠q.1.block:=by
             intro q hq;simp at hq
             rcases hq with rfl|rfl|rfl|rfl|rfl|rfl|rfl|rfl|rfl|rfl|rfl|rfl<;>(dsimp only;omega)
            refine cl1 (i:=20) fun K d=>?_
            go_simp;refine kO d (CellL.set3 a ai _ _ _) (fun a=>?_);clear d K;refine wpAnyH_done kM ?_ _;have D:=zcd (i:=j+1) (bO.out.ext ((((((((eR w3).drew).trans l).trans g).trans m).alloc _).trans p).trans r)) T z1 z2 aD bt (af.out.ext ((((((((eR w3).drew).trans l).trans g).trans m).alloc _).trans p).trans r)) (P.out.ext ((((((((eR w3).drew).trans l).trans g).trans m).alloc _).trans p).trans r)) ac (by simp only [Value.ownBlock,ne_eq,Option.some.injEq];omega) rfl;have D:=hd9 D;clear a q0 ax ay az aA aB;go_wp2;go_meet;exact D.out
          case h2q3 =>
           go_simp;refine kO d (cE a ((eR _).alloc _)) (fun a=>?_);clear d K;refine cl1 (i:=16) fun K d=>?_
           go_simp
           (with_reducible refine cM (zat _ _ _ x y (ba.ext (((((eR w3).drew).trans l).trans g).alloc _)) (bc.ext (((((eR w3).drew).trans l).trans g).alloc _)) bY.out au.out) ?_)
           rintro e bl ⟨cZ,rfl,aj,m⟩;obtain⟨cB,cG,cD,cI,cC,cH,cF,rfl⟩:=aj.form
           go_wp2_with fail
           refine kO d (cE a m) (fun a=>?_);clear d K;have bm:=m.size
           try simp only [wZ,qdZ]at bm
           refine cl1 (i:=17) fun K d=>?_
           go_simp
           (with_reducible refine cM (zbx _ _ _ ((pinG s pin y) / ((pinG s pin y)-(pinG s pin x))) (x-y) (bq.ext (((eR _).alloc _).trans m)) (aj.ext (eR _)) cx.out bC.out) ?_)
           rintro e aS ⟨cc,rfl,ab,p⟩;obtain⟨bZ,b3,b1,cb,b0,ca,b2,rfl⟩:=ab.form
           go_wp2_with fail
           refine kO d (cE a p) (fun a=>?_);clear d K;have aI:=p.size
           try simp only [wZ,qdZ]at aI
           refine cl1 (i:=18) fun K d=>?_
           go_simp
           (with_reducible refine cM (zaZ _ _ _ y ((pinG s pin y) / ((pinG s pin y)-(pinG s pin x))*(x-y)) (bc.ext (((((((eR w3).drew).trans l).trans g).alloc _).trans m).trans p)) (ab.ext (eR _)) au.out cd.out) ?_)
           rintro e aa ⟨bN,rfl,T,r⟩;obtain⟨bD,bH,bF,bJ,bE,bI,bG,rfl⟩:=T.form
           go_wp2_with fail
           refine kO d (cE a r) (fun a=>?_);clear d K;have an:=r.size
           try simp only [wZ,qdZ]at an
           have aD:Q<co.heap.size:=oM
           have ac:RB aa co.heap.size 0:=((((RB.new (IsR.zero _) rfl).ext m).ext p).ext r);have bt:co.heap.size<aa.heap.size:=oM
           obtain⟨_,_,_,_,_,_,_,q0,ax,ay,az,aA,aB,qz,_⟩:=ac.rd
           have ai:∀q∈[((⟨b7,o7+j*3,Y⟩:Addr),Value.slice za zm zc),(⟨b7,o7+j*3+1,Y⟩,Z zs),(⟨b7,o7+j*3+2,Y⟩,O cp cr cq),(⟨ad,0,Y⟩,O ta tm tc),(⟨ad,1,Y⟩,Z ts),(⟨ad,2,Y⟩,O ci ck cj),(⟨Q,0,Y⟩,O va vm vc),(⟨Q,1,Y⟩,Z vs),(⟨Q,2,Y⟩,O cl cn cm),(⟨ah,0,Y⟩,O ua um uc),(⟨ah,1,Y⟩,Z us),(⟨ah,2,Y⟩,O aF aH aG)],co.heap.size≠q.1.block:=by
            intro q hq;simp at hq
            rcases hq with rfl|rfl|rfl|rfl|rfl|rfl|rfl|rfl|rfl|rfl|rfl|rfl<;>(dsimp only;omega)
           refine cl1 (i:=20) fun K d=>?_
           go_simp;refine kO d (CellL.set3 a ai _ _ _) (fun a=>?_);clear d K;refine wpAnyH_done kM ?_ _;have D:=zcd (i:=j+1) (bO.out.ext ((((((((eR w3).drew).trans l).trans g).alloc _).trans m).trans p).trans r)) T z1 z2 aD bt (af.out.ext ((((((((eR w3).drew).trans l).trans g).alloc _).trans m).trans p).trans r)) (P.out.ext ((((((((eR w3).drew).trans l).trans g).alloc _).trans m).trans p).trans r)) ac (by simp only [Value.ownBlock,ne_eq,Option.some.injEq];omega) rfl;have D:=hd9 D;clear a q0 ax ay az aA aB;go_wp2;go_meet;exact D.out
         case h2q2 =>
          go_simp;refine kO d (cE a ((eR _).alloc _)) (fun a=>?_);clear d K;refine cl1 (i:=9) fun K d=>?_
          go_simp
          (with_reducible refine cM (zbF _ _ _ (pinG s pin y) ((pinG s pin y)-(pinG s pin x)) (ch.ext ((((eR w3).drew).trans l).alloc _)) (cg.ext ((eR _).alloc _)) cy.out dw.out) ?_)
          rintro e co ⟨eG,rfl,bq,g⟩;obtain⟨d6,eb,d8,ee,d7,ed,d9,rfl⟩:=bq.form
          go_wp2_with fail
          refine kO d (cE a g) (fun a=>?_);clear d K;have bu:=g.size
          try simp only [wZ,qdZ]at bu
          refine cl1 (i:=16) fun K d=>?_
          go_simp
          (with_reducible refine cM (zat _ _ _ x y (ba.ext (((((eR w3).drew).trans l).alloc _).trans g)) (bc.ext (((((eR w3).drew).trans l).alloc _).trans g)) bY.out au.out) ?_)
          rintro e bl ⟨cZ,rfl,aj,m⟩;obtain⟨cB,cG,cD,cI,cC,cH,cF,rfl⟩:=aj.form
          go_wp2_with fail
          refine kO d (cE a m) (fun a=>?_);clear d K;have bm:=m.size
          try simp only [wZ,qdZ]at bm
          refine cl1 (i:=17) fun K d=>?_
          go_simp
          (with_reducible refine cM (zbx _ _ _ ((pinG s pin y) / ((pinG s pin y)-(pinG s pin x))) (x-y) (bq.ext ((eR _).trans m)) (aj.ext (eR _)) cx.out bC.out) ?_)
          rintro e aS ⟨cc,rfl,ab,p⟩;obtain⟨bZ,b3,b1,cb,b0,ca,b2,rfl⟩:=ab.form
          go_wp2_with fail
          refine kO d (cE a p) (fun a=>?_);clear d K;have aI:=p.size
          try simp only [wZ,qdZ]at aI
          refine cl1 (i:=18) fun K d=>?_
          go_simp
          (with_reducible refine cM (zaZ _ _ _ y ((pinG s pin y) / ((pinG s pin y)-(pinG s pin x))*(x-y)) (bc.ext (((((((eR w3).drew).trans l).alloc _).trans g).trans m).trans p)) (ab.ext (eR _)) au.out cd.out) ?_)
          rintro e aa ⟨bN,rfl,T,r⟩;obtain⟨bD,bH,bF,bJ,bE,bI,bG,rfl⟩:=T.form
          go_wp2_with fail
          refine kO d (cE a r) (fun a=>?_);clear d K;have an:=r.size
          try simp only [wZ,qdZ]at an
          have aD:Q<c0.heap.size:=oM
          have ac:RB aa c0.heap.size 0:=(((((RB.new (IsR.zero _) rfl).ext g).ext m).ext p).ext r);have bt:c0.heap.size<aa.heap.size:=oM
          obtain⟨_,_,_,_,_,_,_,q0,ax,ay,az,aA,aB,qz,_⟩:=ac.rd
          have ai:∀q∈[((⟨b7,o7+j*3,Y⟩:Addr),Value.slice za zm zc),(⟨b7,o7+j*3+1,Y⟩,Z zs),(⟨b7,o7+j*3+2,Y⟩,O cp cr cq),(⟨ad,0,Y⟩,O ta tm tc),(⟨ad,1,Y⟩,Z ts),(⟨ad,2,Y⟩,O ci ck cj),(⟨Q,0,Y⟩,O va vm vc),(⟨Q,1,Y⟩,Z vs),(⟨Q,2,Y⟩,O cl cn cm),(⟨ah,0,Y⟩,O ua um uc),(⟨ah,1,Y⟩,Z us),(⟨ah,2,Y⟩,O aF aH aG)],c0.heap.size≠q.1.block:=by
           intro q hq;simp at hq
           rcases hq with rfl|rfl|rfl|rfl|rfl|rfl|rfl|rfl|rfl|rfl|rfl|rfl<;>(dsimp only;omega)
          refine cl1 (i:=20) fun K d=>?_
          go_simp;refine kO d (CellL.set3 a ai _ _ _) (fun a=>?_);clear d K;refine wpAnyH_done kM ?_ _;have D:=zcd (i:=j+1) (bO.out.ext ((((((((eR w3).drew).trans l).alloc _).trans g).trans m).trans p).trans r)) T z1 z2 aD bt (af.out.ext ((((((((eR w3).drew).trans l).alloc _).trans g).trans m).trans p).trans r)) (P.out.ext ((((((((eR w3).drew).trans l).alloc _).trans g).trans m).trans p).trans r)) ac (by simp only [Value.ownBlock,ne_eq,Option.some.injEq];omega) rfl;have D:=hd9 D;clear a q0 ax ay az aA aB;go_wp2;go_meet;exact D.out
        case h2q1 =>
         go_simp;refine kO d (cE a ((eR _).alloc _)) (fun a=>?_);clear d K;refine cl1 (i:=8) fun K d=>?_
         go_simp
         (with_reducible refine cM (zat _ _ _ (pinG s pin y) (pinG s pin x) (ch.ext (((eR w3).alloc _).drew)) (dQ.ext (((eR w3).alloc _).drew)) cy.out d0.out) ?_)
         rintro e c0 ⟨fx,rfl,cg,l⟩;obtain⟨eV,e4,eY,e6,eW,e5,eZ,rfl⟩:=cg.form
         go_wp2_with fail
         refine kO d (cE a l) (fun a=>?_);clear d K;have bX:=l.size
         try simp only [wZ,qdZ]at bX
         refine cl1 (i:=9) fun K d=>?_
         go_simp
         (with_reducible refine cM (zbF _ _ _ (pinG s pin y) ((pinG s pin y)-(pinG s pin x)) (ch.ext ((((eR w3).alloc _).drew).trans l)) (cg.ext (eR _)) cy.out dw.out) ?_)
         rintro e co ⟨eG,rfl,bq,g⟩;obtain⟨d6,eb,d8,ee,d7,ed,d9,rfl⟩:=bq.form
         go_wp2_with fail
         refine kO d (cE a g) (fun a=>?_);clear d K;have bu:=g.size
         try simp only [wZ,qdZ]at bu
         refine cl1 (i:=16) fun K d=>?_
         go_simp
         (with_reducible refine cM (zat _ _ _ x y (ba.ext (((((eR w3).alloc _).drew).trans l).trans g)) (bc.ext (((((eR w3).alloc _).drew).trans l).trans g)) bY.out au.out) ?_)
         rintro e bl ⟨cZ,rfl,aj,m⟩;obtain⟨cB,cG,cD,cI,cC,cH,cF,rfl⟩:=aj.form
         go_wp2_with fail
         refine kO d (cE a m) (fun a=>?_);clear d K;have bm:=m.size
         try simp only [wZ,qdZ]at bm
         refine cl1 (i:=17) fun K d=>?_
         go_simp
         (with_reducible refine cM (zbx _ _ _ ((pinG s pin y) / ((pinG s pin y)-(pinG s pin x))) (x-y) (bq.ext ((eR _).trans m)) (aj.ext (eR _)) cx.out bC.out) ?_)
         rintro e aS ⟨cc,rfl,ab,p⟩;obtain⟨bZ,b3,b1,cb,b0,ca,b2,rfl⟩:=ab.form
         go_wp2_with fail
         refine kO d (cE a p) (fun a=>?_);clear d K;have aI:=p.size
         try simp only [wZ,qdZ]at aI
         refine cl1 (i:=18) fun K d=>?_
         go_simp
         (with_reducible refine cM (zaZ _ _ _ y ((pinG s pin y) / ((pinG s pin y)-(pinG s pin x))*(x-y)) (bc.ext (((((((eR w3).alloc _).drew).trans l).trans g).trans m).trans p)) (ab.ext (eR _)) au.out cd.out) ?_)
         rintro e aa ⟨bN,rfl,T,r⟩;obtain⟨bD,bH,bF,bJ,bE,bI,bG,rfl⟩:=T.form
         go_wp2_with fail
         refine kO d (cE a r) (fun a=>?_);clear d K;have an:=r.size
         try simp only [wZ,qdZ]at an
         have aD:Q<w3.heap.size:=oM
         have ac:RB aa w3.heap.size 0:=((((((RB.new (IsR.zero _) rfl).ext ((eR _).drew.trans l)).ext g).ext m).ext p).ext r);have bt:w3.heap.size<aa.heap.size:=oM
         obtain⟨_,_,_,_,_,_,_,q0,ax,ay,az,aA,aB,qz,_⟩:=ac.rd
         have ai:∀q∈[((⟨b7,o7+j*3,Y⟩:Addr),Value.slice za zm zc),(⟨b7,o7+j*3+1,Y⟩,Z zs),(⟨b7,o7+j*3+2,Y⟩,O cp cr cq),(⟨ad,0,Y⟩,O ta tm tc),(⟨ad,1,Y⟩,Z ts),(⟨ad,2,Y⟩,O ci ck cj),(⟨Q,0,Y⟩,O va vm vc),(⟨Q,1,Y⟩,Z vs),(⟨Q,2,Y⟩,O cl cn cm),(⟨ah,0,Y⟩,O ua um uc),(⟨ah,1,Y⟩,Z us),(⟨ah,2,Y⟩,O aF aH aG)],w3.heap.size≠q.1.block:=by
          intro q hq;simp at hq
          rcases hq with rfl|rfl|rfl|rfl|rfl|rfl|rfl|rfl|rfl|rfl|rfl|rfl<;>(dsimp only;omega)
         refine cl1 (i:=20) fun K d=>?_
         go_simp;refine kO d (CellL.set3 a ai _ _ _) (fun a=>?_);clear d K;refine wpAnyH_done kM ?_ _;have D:=zcd (i:=j+1) (bO.out.ext ((((((((eR w3).alloc _).drew).trans l).trans g).trans m).trans p).trans r)) T z1 z2 aD bt (af.out.ext ((((((((eR w3).alloc _).drew).trans l).trans g).trans m).trans p).trans r)) (P.out.ext ((((((((eR w3).alloc _).drew).trans l).trans g).trans m).trans p).trans r)) ac (by simp only [Value.ownBlock,ne_eq,Option.some.injEq];omega) rfl;have D:=hd9 D;clear a q0 ax ay az aA aB;go_wp2;go_meet;exact D.out
       case rest =>
        clear z1 z2 z3 af P bO fN fO fP u0 u1 u2 v0 fC fD t0 t1 t2 ba dQ ch bc X3 bW ex;obtain⟨dE,⟨bo,bp,rfl,rfl,rfl,z1,z2,z3,G,aC,av⟩,rfl,bt,du⟩:=hcut;obtain⟨cv,el⟩:=gX (crossR (pinG s pin) y x);rw [el]at c9 dx du;clear el;have dB:=hd9 (show ∀q∈[o1.1,cv],Rb limR q from fun q hq=>by rcases List.mem_cons.1 hq with rfl|hq;exact zaf dr.out.1 oM;rw [List.mem_singleton.1 hq];exact zaf dx.out oM);have dC:=hd9 (show ∀q∈[o1.2,cv],Rb limR q from fun q hq=>by rcases List.mem_cons.1 hq with rfl|hq;exact zaf dr.out.2 oM;rw [List.mem_singleton.1 hq];exact zaf dx.out oM);go_wp2;obtain⟨pa,pm,ap,ps,ao,ar,aq,p0,p1,p2,cW,cX,cY,pz,bV⟩:=(G.2.2.2.1).rd;obtain⟨ea,em,ec,es,aZ,a3,a0,e0,e1,e2,cJ,cK,cL,ez,bU⟩:=(G.2.2.2.2.1).rd;obtain⟨ua,um,uc,us,aF,aH,aG,u0,u1,u2,fz,fA,fB,uz,ba⟩:=(du).rd;have ag:=hd9 G;have c8:=hd9 (du);have P:=hd9 av;have bQ:=hd9 bV;have bP:=hd9 bU;have aJ:=hd9 ba;clear G aC av bV bU ba;have D0:Ext wc wc.drew:=(eR _).drew;refine zaV (fun i=>decide (7<i)) (CellL [(⟨w.heap.size+1,0,Y⟩,O pa pm ap),(⟨w.heap.size+1,1,Y⟩,Z ps),(⟨w.heap.size+1,2,Y⟩,O ao ar aq),(⟨w.heap.size+1+1,0,Y⟩,O ea em ec),(⟨w.heap.size+1+1,1,Y⟩,Z es),(⟨w.heap.size+1+1,2,Y⟩,O aZ a3 a0),(⟨dE,0,Y⟩,O ua um uc),(⟨dE,1,Y⟩,Z us),(⟨dE,2,Y⟩,O aF aH aG)]) kM ?_ (fun a=>?_)
        ·exact cA
        refine sN 0 ?_
        iterate 2
         refine tun ?_
        refine oN ?_;refine sN 4 ?_
        iterate 2
         refine tun ?_
        refine oN ?_;refine callHU2 (i:=2) (j:=6) (fun K d=>?h1k1xx1) (fun K d=>?h2k1xx1)
        case h1k1xx1 =>
         go_simp;refine kO d (fun _=>cE a ((eR _).alloc _)) (fun a=>?_);clear d K;have a:=a rfl;refine callHU2 (i:=3) (j:=6) (fun K d=>?h1k2xx1) (fun K d=>?h2k2xx1)
         case h1k2xx1 =>
          go_simp
          (with_reducible refine cM (zbw _ _ [o1.1,cv] ((zaU wc rfl bQ.out aJ.out).ext' (eR _).drew) dB.out) ?_)
          rintro e w6 ⟨r6,rfl,ak,t⟩;obtain⟨aT,bf,aX,bj,aV,bh,bd,rfl⟩:=ak.form
          go_wp2_with fail
          refine kO d (fun _=>cE a t) (fun a=>?_);clear d K;have a:=a rfl;have D6:Ext wc w6:=(((eR wc).alloc _).drew).trans t;refine cu1 (i:=6) fun K d=>?_
          go_simp;refine kO d (fun _=>cE a ((eR _).alloc _)) (fun a=>?_);clear d K;have a:=a rfl;refine cu1 (i:=7) fun K d=>?_
          go_simp
          (with_reducible refine cM (zbv _ _ [o1.2,cv] (zaU w6 rfl (bP.out.ext D6) (aJ.out.ext D6)) dC.out) ?_)
          rintro e w7 ⟨r7,rfl,al,z⟩;obtain⟨aU,bg,aY,bk,aW,bi,be,rfl⟩:=al.form
          go_wp2_with fail
          refine kO d (fun _=>cE a z) (fun a=>?_);clear d K;have a:=a rfl;obtain⟨_,_,_,_,_,_,_,x0,x1,x2,aK,aL,aM,xz,_⟩:=((ag.out.ext ((D6.alloc _).trans z)).2.2.2.1).rd;obtain⟨_,_,_,_,_,_,_,y0,y1,y2,aO,aP,aQ,yz,_⟩:=((ag.out.ext ((D6.alloc _).trans z)).2.2.2.2.1).rd;refine cu1 (i:=8) fun K d=>?_
          go_simp;refine kO d (fun h=>nomatch h) (fun a=>?_);clear d K;refine cu1 (i:=9) fun K d=>?_
          go_simp;refine kO d (fun h=>nomatch h) (fun a=>?_);clear d K;refine doneHU kM ?_ _;obtain⟨W9,ae⟩:=gX (((((((w7.setCell ⟨w.heap.size+1,0,Y⟩ (O aT bf aX)).setCell ⟨w.heap.size+1,1,Y⟩ (Z bj)).setCell ⟨w.heap.size+1,2,Y⟩ (O aV bh bd)).setCell ⟨w.heap.size+1+1,0,Y⟩ (O aU bg aY)).setCell ⟨w.heap.size+1+1,1,Y⟩ (Z bk)).setCell ⟨w.heap.size+1+1,2,Y⟩ (O aW bi be)));have D:=(RcW.put2 (ag.out.ext ((D6.alloc _).trans z)) ((ak.ext ((eR _).alloc _)).ext z) al rfl rfl).1;rw [ae]at D ⊢;have D:=hd9 D;clear ae x0 x1 x2 aK aL aM y0 y1 y2 aO aP aQ a;go_wp2
          go_roundg (n-(j+1+1))
          case measure=>have:=Hn.out;omega
          case rel=>exact⟨j+1+1,by rw [Hn.out];omega,by go_num,by rw [Hn.out],by rw [c9.out];exact D.out⟩
         case h2k2xx1 =>
          go_simp;refine kO d (fun _=>cE a ((eR _).alloc _)) (fun a=>?_);clear d K;have a:=a rfl;refine cu1 (i:=3) fun K d=>?_
          go_simp
          (with_reducible refine cM (zbw _ _ [o1.1,cv] ((zaU wc rfl bQ.out aJ.out).ext' ((eR _).alloc _).drew) dB.out) ?_)
          rintro e w6 ⟨r6,rfl,ak,t⟩;obtain⟨aT,bf,aX,bj,aV,bh,bd,rfl⟩:=ak.form
          go_wp2_with fail
          refine kO d (fun _=>cE a t) (fun a=>?_);clear d K;have a:=a rfl;have D6:Ext wc w6:=((((eR wc).alloc _).alloc _).drew).trans t;have R2:=(((zaU _ (b:=wc.heap.size+1) sM (bP.out.ext ((eR wc).alloc (I #[O pa pm ap,Z ps,O ao ar aq,O ua um uc,Z us,O aF aH aG] 65))) (aJ.out.ext ((eR wc).alloc _))).ext' (eR _).drew).ext' t);refine cu1 (i:=7) fun K d=>?_
          go_simp
          (with_reducible refine cM (zbv _ _ [o1.2,cv] R2 dC.out) ?_)
          rintro e w7 ⟨r7,rfl,al,z⟩;obtain⟨aU,bg,aY,bk,aW,bi,be,rfl⟩:=al.form
          go_wp2_with fail
          refine kO d (fun _=>cE a z) (fun a=>?_);clear d K;have a:=a rfl;obtain⟨_,_,_,_,_,_,_,x0,x1,x2,aK,aL,aM,xz,_⟩:=((ag.out.ext (D6.trans z)).2.2.2.1).rd;obtain⟨_,_,_,_,_,_,_,y0,y1,y2,aO,aP,aQ,yz,_⟩:=((ag.out.ext (D6.trans z)).2.2.2.2.1).rd;refine cu1 (i:=8) fun K d=>?_
          go_simp;refine kO d (fun h=>nomatch h) (fun a=>?_);clear d K;refine cu1 (i:=9) fun K d=>?_
          go_simp;refine kO d (fun h=>nomatch h) (fun a=>?_);clear d K;refine doneHU kM ?_ _;obtain⟨W9,ae⟩:=gX (((((((w7.setCell ⟨w.heap.size+1,0,Y⟩ (O aT bf aX)).setCell ⟨w.heap.size+1,1,Y⟩ (Z bj)).setCell ⟨w.heap.size+1,2,Y⟩ (O aV bh bd)).setCell ⟨w.heap.size+1+1,0,Y⟩ (O aU bg aY)).setCell ⟨w.heap.size+1+1,1,Y⟩ (Z bk)).setCell ⟨w.heap.size+1+1,2,Y⟩ (O aW bi be)));have D:=(RcW.put2 (ag.out.ext (D6.trans z)) (ak.ext z) al rfl rfl).1;rw [ae]at D ⊢;have D:=hd9 D;clear ae x0 x1 x2 aK aL aM y0 y1 y2 aO aP aQ a;go_wp2
          go_roundg (n-(j+1+1))
          case measure=>have:=Hn.out;omega
          case rel=>exact⟨j+1+1,by rw [Hn.out];omega,by go_num,by rw [Hn.out],by rw [c9.out];exact D.out⟩
        case h2k1xx1 =>
         go_simp;refine kO d (fun _=>cE a ((eR _).alloc _)) (fun a=>?_);clear d K;have a:=a rfl;refine cu1 (i:=2) fun K d=>?_
         go_simp;refine kO d (fun _=>cE a ((eR _).alloc _)) (fun a=>?_);clear d K;have a:=a rfl;have R1:=((zaU _ (b:=wc.heap.size+1) sM (bQ.out.ext ((eR wc).alloc (I #[O ea em ec,Z es,O aZ a3 a0,O ua um uc,Z us,O aF aH aG] 65))) (aJ.out.ext ((eR wc).alloc _))).ext' (eR _).drew);refine cu1 (i:=3) fun K d=>?_
         go_simp
         (with_reducible refine cM (zbw _ _ [o1.1,cv] R1 dB.out) ?_)
         rintro e w6 ⟨r6,rfl,ak,t⟩;obtain⟨aT,bf,aX,bj,aV,bh,bd,rfl⟩:=ak.form
         go_wp2_with fail
         refine kO d (fun _=>cE a t) (fun a=>?_);clear d K;have a:=a rfl;have D6:Ext wc w6:=((((eR wc).alloc _).alloc _).drew).trans t;refine cu1 (i:=7) fun K d=>?_
         go_simp
         (with_reducible refine cM (zbv _ _ [o1.2,cv] (((zaU wc rfl bP.out aJ.out).ext' ((eR _).alloc _).drew).ext' t) dC.out) ?_)
         rintro e w7 ⟨r7,rfl,al,z⟩;obtain⟨aU,bg,aY,bk,aW,bi,be,rfl⟩:=al.form
         go_wp2_with fail
         refine kO d (fun _=>cE a z) (fun a=>?_);clear d K;have a:=a rfl;obtain⟨_,_,_,_,_,_,_,x0,x1,x2,aK,aL,aM,xz,_⟩:=((ag.out.ext (D6.trans z)).2.2.2.1).rd;obtain⟨_,_,_,_,_,_,_,y0,y1,y2,aO,aP,aQ,yz,_⟩:=((ag.out.ext (D6.trans z)).2.2.2.2.1).rd;refine cu1 (i:=8) fun K d=>?_
         go_simp;refine kO d (fun h=>nomatch h) (fun a=>?_);clear d K;refine cu1 (i:=9) fun K d=>?_
         go_simp;refine kO d (fun h=>nomatch h) (fun a=>?_);clear d K;refine doneHU kM ?_ _;obtain⟨W9,ae⟩:=gX (((((((w7.setCell ⟨w.heap.size+1,0,Y⟩ (O aT bf aX)).setCell ⟨w.heap.size+1,1,Y⟩ (Z bj)).setCell ⟨w.heap.size+1,2,Y⟩ (O aV bh bd)).setCell ⟨w.heap.size+1+1,0,Y⟩ (O aU bg aY)).setCell ⟨w.heap.size+1+1,1,Y⟩ (Z bk)).setCell ⟨w.heap.size+1+1,2,Y⟩ (O aW bi be)));have D:=(RcW.put2 (ag.out.ext (D6.trans z)) (ak.ext z) al rfl rfl).1;rw [ae]at D ⊢;have D:=hd9 D;clear ae x0 x1 x2 aK aL aM y0 y1 y2 aO aP aQ a;go_wp2
         go_roundg (n-(j+1+1))
         case measure=>have:=Hn.out;omega
         case rel=>exact⟨j+1+1,by rw [Hn.out];omega,by go_num,by rw [Hn.out],by rw [c9.out];exact D.out⟩
      ·have fr:decide (km<0)=false:=by simpa using a8
       go_wp2
       go_roundg (n-(j+1+1))
       case measure=>have:=Hn.out;omega
       case rel=>exact⟨j+1+1,by rw [Hn.out];omega,by go_num,by rw [Hn.out],by rw [d1.out,if_neg (Int.not_lt.2 a8)];exact G3⟩
  ·obtain rfl:i=n:=oM
   obtain⟨y1,y2,y3,eh,ei,y6⟩:=hI;have Y1:=hd9 y1;clear y1 y3 y6 D HT HG eP cf dh;go_wp2;obtain⟨pa,pm,ap,ps,ao,ar,aq,p0,p1,p2,cW,cX,cY,pz,er⟩:=eh.rd;obtain⟨ea,em,ec,es,aZ,a3,a0,e0,e1,e2,cJ,cK,cL,ez,et⟩:=ei.rd;refine zaV (fun i=>decide (2<i)) (CellL [(⟨w.heap.size+1,0,Y⟩,O pa pm ap),(⟨w.heap.size+1,1,Y⟩,Z ps),(⟨w.heap.size+1,2,Y⟩,O ao ar aq),(⟨w.heap.size+1+1,0,Y⟩,O ea em ec),(⟨w.heap.size+1+1,1,Y⟩,Z es),(⟨w.heap.size+1+1,2,Y⟩,O aZ a3 a0)]) kM ?_ (fun a=>?_)
   ·exact cA
   refine sN 0 ?_
   iterate 2
    refine tun ?_
   refine oN ?_;refine cu1 (i:=2) fun K d=>?_
   go_simp;refine kO d (fun _=>?_) (fun a=>?_)
   ·exact cA
   clear d K;have a:=a rfl;refine cu1 (i:=3) fun K d=>?_
   go_simp;refine kO d (fun h=>nomatch h) (fun a=>?_);clear d K;refine cu1 (i:=4) fun K d=>?_
   go_simp;refine kO d (fun h=>nomatch h) (fun a=>?_);clear d K;refine doneHU kM ?_ _;go_wp2;refine bR (v:=.tuple #[.agg #[O pa pm ap,Z ps,O ao ar aq],.agg #[O ea em ec,Z es,O aZ a3 a0],Z true]) (by simp [results,Tryz.results108,go_sem,p0,p1,p2,cW,cX,cY,e0,e1,e2,cJ,cK,cL]) rfl ?_;rw [←HR.out];obtain⟨P1,P2,P3,P4,P5,P6⟩:=RB.copy2 eh ei oM er et rfl rfl;refine⟨(P6 w Y1.out oM oM).drew,.agg #[O pa pm ap,Z ps,O ao ar aq],.agg #[O ea em ec,Z es,O aZ a3 a0],?_,?_,rfl⟩
   ·exact(er.keep P4).ext (eR _).drew
   ·exact(et.keep P4).ext (eR _).drew
end
end Go.Proofs.YtodpfeaihohpjaaGreatDoor.Cop
