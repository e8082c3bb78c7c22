/- Part 42. -/
import Derived.Test.YtjnjpagegkcgfaaGreatDoorCosA22
import Derived.Test.YtjnjpagegkcgfaaGreatDoorCosA34
import Derived.Test.YtjnjpagegkcgfaaGreatDoorCosA40
import Derived.Test.YtjnjpagegkcgfaaGreatDoorCosA37
import Derived.Test.YtjnjpagegkcgfaaGreatDoorCosA26
import Derived.Test.YtjnjpagegkcgfaaGreatDoorCosA24
set_option maxRecDepth 1000000
set_option maxHeartbeats 16000000
set_option linter.unusedSimpArgs false
set_option linter.unusedVariables false
open Option renaming none->Y
open Go.Value renaming int->Z,slice->V,bool->J
open Go.IntKind renaming i64->X
open Go renaming World->I,Value->M
namespace Go.Proofs.YtjnjpagegkcgfaaGreatDoor.Cop
section
open Go.RowKit Go.Shelf Go.Sort Go.Lib
attribute [local go_sem] Oper.semAt_some
theorem zlz(w:I):IsPts w (V Y 0 0) []:=⟨[],rfl,by simp,Rd.nil _ _ _,fun i c x h=>by simp at h⟩
theorem corners2(w:I)(p:Pl)(v:M)(h:IsPts w v p.shape)(g:0<=p.skin)(f:Gw w):Calls Tryz.prog 25 #[.agg (plc p v)] w fun e c=>∃vc,e = .returned (.tuple #[vc,Z X (if placedOk p then 0 else 2)])/\IsPts c vc (if placedOk p then cornersP p else [])/\Ext w c:=by
 refine(zf2 w p v h g f).mono ?_;rintro e c (⟨a,rfl,b⟩|⟨a,i,rfl,d,b⟩)
 ·rw[a]
  exact⟨_,rfl,zlz _,b⟩
 ·rw[a]
  exact⟨_,rfl,d,b⟩
theorem zik(w:I)(v:M)(p:Pl)(N D:Int)(hv:IsPr w v p.shape)(hk:0<=p.skin)(hN : -9223372036854775808<=N/\N<=9223372036854775807)(hD : -9223372036854775808<=D/\D<=9223372036854775807)(bF:Gw w) :
  Calls Tryz.prog 5 #[.agg (plc p v),.agg #[Z X N,Z X D]] w fun e w'=>e = .returned (J true)/\Ext w w':=by
 have HL:=hd9 (fun(W:I)(r:Ext w W)=>zlo W p.name v p.shape p.depth p.density p.gx p.gz (hv.ext' r));have HP:=hd9 (fun(hl:longB p=false)(W:I)(r:Ext w W)=>zgv W p.name v p.shape p.depth p.density p.gx p.gz p.way p.ax p.az p.skin (hv.ext' r) (by unfold longB at hl;simp at hl;omega));have aM:=hd9 (fun(W:I)=>zkT W N D hN.1 hN.2 hD.1 hD.2);have hq:=znh hN.1 hN.2 hD.1 hD.2;obtain⟨q,cg⟩:=gX (numQ N D);rw[cg]at aM hq;have al:=hd9 (fun(W:I)(v':M)(h:IsPts W v' p.shape)(hg:Gw W)=>corners2 W p v' h hk hg);have ar:=hd9 (fun(W:I)(v' vx:M)(h:IsPts W v' p.shape)(hx:IsR W vx q)(hg:Gw W)=>zkj W v' vx p q h hx (hq.mono dM) hk hg);have bt:=hd9 (fun(hl:longB p=false)(W:I)(r:Ext w W)=>zlg W v p (hv.ext' r) (by unfold longB at hl;simp at hl;omega));have ah:=hd9 (fun(W:I)(v':M)(h:IsPts W v' p.shape)=>zau W p v' h hk);have am:=hd9 (fun(b:placedOk p=true)(W:I)(r:Ext w W)=>zdC W v p (hv.ext' r) b);have an:=hd9 (fun(b:placedOk p=true)(W:I)(r:Ext w W)=>zi8 W v p (hv.ext' r) b);have ao:=hd9 (fun(b:placedOk p=true)(W:I)(r:Ext w W)=>zlh W v p (hv.ext' r) b);have au:=hd9 (fun(b:placedOk p=true)(W:I)(r:Ext w W)=>zfo W p.name v p.shape p.depth p.density p.gx p.gz p.way (hv.ext' r) (zbL b).bd (zbL b).ne (by have:=(zbL b).le;omega) (zbL b).w0 (zbL b).w1 (by have:=(zbL b).gx;unfold Bd at *;omega) (by have:=(zbL b).gz;unfold Bd at *;omega));have HA:=hd9 (fun(W:I)(r:Ext w W)=>zhI W (bF.ext r));have HG:=hd9 bF;have Hq:=hd9 hq;have aW:=hd9 (show longB p=(decide (20<p.shape.length) || decide (40<p.name.size))from rfl);obtain⟨sa,sn,sc,rfl⟩:=hv.form3;obtain⟨lg,cf⟩:=gX ((decide (20<p.shape.length) || decide (40<p.name.size)));rw[cf]at HL aW;clear hv hk hN hD bF hq cg cf;unfold plc
 cases lg with
 | true =>
  clear HP aM al ar bt ah am an ao au;go_enter Tryz.func5,Tryz.ntmps5
  go_wp2_with(first|(go_at_call 8;(with_reducible refine(HL.out _ ?_).mono ?_);exact eA;rintro e w2 ⟨rfl,bI⟩)|(go_at_call 9;(with_reducible refine(HA.out _ ?_).mono ?_);exact eA;rintro e w3 ⟨rfl,bJ⟩))
  go_ret;exact⟨rfl,eA⟩
 | false =>
  have bU:=hd9 (HP.out aW.out);have ac:=hd9 (bt.out aW.out);unfold plc at ac al ar ah am an ao;clear HP bt aW;obtain⟨ok,b⟩:=gX (placedOk p);have aP:Hid (placedOk p=ok):=hd9 b;rw[b]at ac al ah am an ao au;obtain⟨L,hL⟩:=gX ((if ok=true then cornersP p else []));obtain⟨ce,ba⟩:∃c:Int,(if ok=true then (0:Int)else 2)=c:=⟨_,rfl⟩;obtain⟨⟨o1,o2,k⟩,hO⟩:∃O,sidP p q=O:=⟨_,rfl⟩;rw[hL,ba]at al;rw[ba]at ah;rw[hO]at ar;have aO:=hd9 hL;have aU:=hd9 ba;have HO:=hd9 hO;clear b hL ba hO;go_enter Tryz.func5,Tryz.ntmps5
  go_upto_region 3 with (go_at_call 8;(with_reducible refine(HL.out _ ?_).mono ?_);exact eA;rintro e w1 ⟨rfl,ch⟩;obtain⟨⟨cp,cq⟩,cm,cn⟩:=cK2 w ch)
  have X1:Ext w w1:=eA
  have C1:CellL [(⟨w.heap.size,0,Y⟩,.string p.name),(⟨w.heap.size,1,Y⟩,V sa sn sc),(⟨w.heap.size,2,Y⟩,Z X p.depth),(⟨w.heap.size,3,Y⟩,Z X p.density),(⟨w.heap.size,4,Y⟩,Z X p.gx),(⟨w.heap.size,5,Y⟩,Z X p.gz),(⟨w.heap.size,6,Y⟩,Z X p.way),(⟨w.heap.size,7,Y⟩,Z X p.ax),(⟨w.heap.size,8,Y⟩,Z X p.az),(⟨w.heap.size,9,Y⟩,Z .u8 p.skin),(⟨w.heap.size+1,0,Y⟩,Z X N),(⟨w.heap.size+1,1,Y⟩,Z X D)] w1:=by
   refine⟨?_,?_,?_,?_,?_,?_,?_,?_,?_,?_,?_,?_,trivial⟩<;>go_simp
  have bu:=hd9 X1;have bs:=hd9 C1;obtain⟨s,hs⟩:=gX w.heap.size;have Hs:=hd9 hs;obtain⟨c0,c1,c2,c3,c4,c5,c6,c7,c8,c9,bx,bz,_⟩:=C1;clear ch cp cq cm cn X1 HL;simp only[hs]at *;clear hs
  go_upto_region 4 with (go_at_call 12;(with_reducible refine(bU.out _ bu.out).mono ?_);rintro e w2 ⟨v2,rfl,aH,bI,-⟩;obtain⟨a2,n2,k2,rfl⟩:=form3 aH)
  obtain⟨W2,aA⟩:=gX (w2.alloc (.cells #[.string p.name,V a2 n2 k2,Z X p.depth,Z X p.density,Z X p.gx,Z X p.gz,Z X p.way,Z X p.ax,Z X p.az,Z .u8 p.skin] 47));obtain⟨g,bE⟩:=gX w2.heap.size;have X2:Ext w1 W2:=by rw[<-aA];exact bI.alloc _
  have k5:W2.heap[g]?=some (.cells #[.string p.name,V a2 n2 k2,Z X p.depth,Z X p.density,Z X p.gx,Z X p.gz,Z X p.way,Z X p.ax,Z X p.az,Z .u8 p.skin] 47 (0,0)):=by rw[<-aA,<-bE];exact aN w2 _
  have aH:IsPts W2 (V a2 n2 k2) p.shape:=by rw[<-aA];exact aH.ext' ((eR _).alloc _)
  rw[aA,bE];clear aA bE bI bU c0 c1 c2 c3 c4 c5 c6 c7 c8 c9 bx bz;have C2:=cE bs.out X2;obtain⟨c0,c1,c2,c3,c4,c5,c6,c7,c8,c9,bx,bz,_⟩:=C2;have ak:=hd9 X2;have bY:=hd9 (bu.out.trans X2);have bP:=hd9 k5;have aX:=hd9 aH;clear X2 k5 aH
  go_upto_region 5 with (go_at_call 17;(with_reducible refine(aM.out _).mono ?_);rintro e w3 ⟨r3,s3,rfl,aD,aF,bJ⟩;obtain⟨a3,m3,k3,l3,e3,f3,g3,rfl⟩:=aD.form;obtain⟨t4,a4,m4,k4,u4,e4,f4,g4,rfl⟩:=aF.form)
  obtain⟨W3,ai⟩:=gX ((w3.alloc (.cells #[V a3 m3 k3,J l3,V e3 f3 g3] 63)).alloc (.cells #[Z X t4,V a4 m4 k4,Z X u4,V e4 f4 g4] 68));obtain⟨b6,a0⟩:=gX w3.heap.size;have X3:Ext W2 W3:=by rw[<-ai];exact(bJ.alloc _).alloc _
  have r6:W3.heap[b6]?=some (.cells #[V a3 m3 k3,J l3,V e3 f3 g3] 63 (0,0)):=by rw[<-ai,<-a0];exact((eR _).alloc _).heapS (aN w3 _)
  have s6:W3.heap[b6+1]?=some (.cells #[Z X t4,V a4 m4 k4,Z X u4,V e4 f4 g4] 68 (0,0)):=by rw[<-ai,<-a0];exact qhA _ _ _ sM
  have aD:IsR W3 (.agg #[V a3 m3 k3,J l3,V e3 f3 g3]) q:=by rw[<-ai];exact aD.ext (((eR _).alloc _).alloc _)
  have aF:IsQ W3 (.agg #[Z X t4,V a4 m4 k4,Z X u4,V e4 f4 g4]) q:=by rw[<-ai];exact aF.ext (((eR _).alloc _).alloc _)
  rw[ai,a0];clear ai a0 bJ aM c0 c1 c2 c3 c4 c5 c6 c7 c8 c9 bx bz;have x:=X3.heapS bP.out;have aT:=hd9 (bY.out.trans X3);have ae:=hd9 X3;have bV:=hd9 r6;have bW:=hd9 s6;have HR:=hd9 aD;have HS:=hd9 aF;have d0:=qcB x (i:=0) (u:=.string p.name) rfl;have d1:=qcB x (i:=1) (u:=V a2 n2 k2) rfl;have d2:=qcB x (i:=2) (u:=Z X p.depth) rfl;have d3:=qcB x (i:=3) (u:=Z X p.density) rfl;have d4:=qcB x (i:=4) (u:=Z X p.gx) rfl;have d5:=qcB x (i:=5) (u:=Z X p.gz) rfl;have d6:=qcB x (i:=6) (u:=Z X p.way) rfl;have d7:=qcB x (i:=7) (u:=Z X p.ax) rfl;have d8:=qcB x (i:=8) (u:=Z X p.az) rfl;have d9:=qcB x (i:=9) (u:=Z .u8 p.skin) rfl;clear X3 r6 s6 aD aF
  go_upto_region 6 with (go_at_call 25;(with_reducible refine(al.out _ _ (aX.out.ext' ae.out) (HG.out.ext aT.out)).mono ?_);rintro e w4 ⟨v4,rfl,bH,bb⟩;obtain⟨a5,n5,k5,rfl⟩:=form3 bH)
  have bZ:=hd9 bH;have aa:=hd9 bb;have o:=bb.heapS x;have R6:=bb.heapS bV.out;clear bH bb x d0 d1 d2 d3 d4 d5 d6 d7 d8 d9;have d0:=qcB o (i:=0) (u:=.string p.name) rfl;have d1:=qcB o (i:=1) (u:=V a2 n2 k2) rfl;have d2:=qcB o (i:=2) (u:=Z X p.depth) rfl;have d3:=qcB o (i:=3) (u:=Z X p.density) rfl;have d4:=qcB o (i:=4) (u:=Z X p.gx) rfl;have d5:=qcB o (i:=5) (u:=Z X p.gz) rfl;have d6:=qcB o (i:=6) (u:=Z X p.way) rfl;have d7:=qcB o (i:=7) (u:=Z X p.ax) rfl;have d8:=qcB o (i:=8) (u:=Z X p.az) rfl;have d9:=qcB o (i:=9) (u:=Z .u8 p.skin) rfl;have x0:=qcB R6 (i:=0) (u:=V a3 m3 k3) rfl;have x1:=qcB R6 (i:=1) (u:=J l3) rfl;have x2:=qcB R6 (i:=2) (u:=V e3 f3 g3) rfl
  go_upto_region 7 with (go_at_call 26;(with_reducible refine(ar.out _ _ _ ((aX.out.ext' ae.out).ext' aa.out) (HR.out.ext aa.out) (HG.out.ext (aT.out.trans aa.out))).mono ?_);rintro e w5 ⟨r5,s5,rfl,aE,aG,ci⟩;obtain⟨a6,m6,k6,l6,e6,f6,g6,rfl⟩:=aE.form;obtain⟨a7,m7,k7,l7,e7,f7,g7,rfl⟩:=aG.form)
  obtain⟨R,aj⟩:=gX ((w5.alloc (.cells #[V a6 m6 k6,J l6,V e6 f6 g6] 63)).alloc (.cells #[V a7 m7 k7,J l7,V e7 f7 g7] 63));obtain⟨n,a1⟩:=gX w5.heap.size;have X5:Ext w4 R:=by rw[<-aj];exact(ci.alloc _).alloc _
  have r8:R.heap[n]?=some (.cells #[V a6 m6 k6,J l6,V e6 f6 g6] 63 (0,0)):=by rw[<-aj,<-a1];exact((eR _).alloc _).heapS (aN w5 _)
  have s8:R.heap[n+1]?=some (.cells #[V a7 m7 k7,J l7,V e7 f7 g7] 63 (0,0)):=by rw[<-aj,<-a1];exact qhA _ _ _ sM
  have aE:IsR R (.agg #[V a6 m6 k6,J l6,V e6 f6 g6]) o1:=by rw[<-aj];exact aE.ext (((eR _).alloc _).alloc _)
  have aG:IsR R (.agg #[V a7 m7 k7,J l7,V e7 f7 g7]) o2:=by rw[<-aj];exact aG.ext (((eR _).alloc _).alloc _)
  rw[aj,a1];have x:=X5.heapS o;have S6:=X5.heapS (aa.out.heapS bW.out);have CP:=cE bs.out ((ae.out.trans aa.out).trans X5 |> fun h=>(show Ext w1 R from ak.out.trans h));clear aj a1 ci d0 d1 d2 d3 d4 d5 d6 d7 d8 d9 x0 x1 x2 R6 o
  have bK:CellL [(⟨s,0,Y⟩,.string p.name),(⟨s,1,Y⟩,V sa sn sc),(⟨s,2,Y⟩,Z X p.depth),(⟨s,3,Y⟩,Z X p.density),(⟨s,4,Y⟩,Z X p.gx),(⟨s,5,Y⟩,Z X p.gz),(⟨s,6,Y⟩,Z X p.way),(⟨s,7,Y⟩,Z X p.ax),(⟨s,8,Y⟩,Z X p.az),(⟨s,9,Y⟩,Z .u8 p.skin),(⟨g,0,Y⟩,.string p.name),(⟨g,1,Y⟩,V a2 n2 k2),(⟨g,2,Y⟩,Z X p.depth),(⟨g,3,Y⟩,Z X p.density),(⟨g,4,Y⟩,Z X p.gx),(⟨g,5,Y⟩,Z X p.gz),(⟨g,6,Y⟩,Z X p.way),(⟨g,7,Y⟩,Z X p.ax),(⟨g,8,Y⟩,Z X p.az),(⟨g,9,Y⟩,Z .u8 p.skin),(⟨b6+1,0,Y⟩,Z X t4),(⟨b6+1,1,Y⟩,V a4 m4 k4),(⟨b6+1,2,Y⟩,Z X u4),(⟨b6+1,3,Y⟩,V e4 f4 g4),(⟨n,0,Y⟩,V a6 m6 k6),(⟨n,1,Y⟩,J l6),(⟨n,2,Y⟩,V e6 f6 g6),(⟨n+1,0,Y⟩,V a7 m7 k7),(⟨n+1,1,Y⟩,J l7),(⟨n+1,2,Y⟩,V e7 f7 g7)] R:=by
   obtain⟨c0,c1,c2,c3,c4,c5,c6,c7,c8,c9,_⟩:=CP
   exact⟨c0,c1,c2,c3,c4,c5,c6,c7,c8,c9,qcB x (i:=0) rfl,qcB x (i:=1) rfl,qcB x (i:=2) rfl,qcB x (i:=3) rfl,qcB x (i:=4) rfl,qcB x (i:=5) rfl,qcB x (i:=6) rfl,qcB x (i:=7) rfl,qcB x (i:=8) rfl,qcB x (i:=9) rfl,
    qcB S6 (i:=0) rfl,qcB S6 (i:=1) rfl,qcB S6 (i:=2) rfl,qcB S6 (i:=3) rfl,qcB r8 (i:=0) rfl,qcB r8 (i:=1) rfl,qcB r8 (i:=2) rfl,qcB s8 (i:=0) rfl,qcB s8 (i:=1) rfl,qcB s8 (i:=2) rfl,trivial⟩
  have ap:=hd9 bK;have l:=hd9 ((aT.out.trans aa.out).trans X5);have aQ:=hd9 aE;have aR:=hd9 aG;have aS:=hd9 (HS.out.ext (aa.out.trans X5));have aw:=hd9 (((aX.out.ext' ae.out).ext' aa.out).ext' X5);have ay:=hd9 (bZ.out.ext' X5);clear r8 s8 aE aG x S6 CP X5 bu bs bY ak bP aX aT ae bV bW HR HS bZ aa al ar Hs;obtain⟨c0,c1,c2,c3,c4,c5,c6,c7,c8,c9,d0,d1,d2,d3,d4,d5,d6,d7,d8,d9,q0,q1,q2,q3,x0,x1,x2,y0,y1,y2,_⟩:=bK
  cases ok with
  | false =>
   obtain rfl:[]=L:=aO.out;obtain rfl:2=ce:=aU.out;have ho:sidP p q=(0,0,2):=if_neg (by rw[aP.out];decide)
   obtain⟨rfl,rfl,rfl⟩:0=o1/\0=o2/\2=k:=by
    have:=HO.out;rw[ho]at this
    simpa using this
   obtain rfl:n5=0:=Sl.len ay.out;clear aO aU ho HO aP am an ao au Hq
   go_wp2_with(first|(go_at_call 27;(with_reducible refine(ac.out _ l.out).mono ?_);rintro e w6 ⟨rfl,j⟩;obtain⟨c0,c1,c2,c3,c4,c5,c6,c7,c8,c9,d0,d1,d2,d3,d4,d5,d6,d7,d8,d9,q0,q1,q2,q3,x0,x1,x2,y0,y1,y2,_⟩:=cE ap.out j)|(go_at_call 28;(with_reducible refine(ah.out _ _ (aw.out.ext' j)).mono ?_);rintro e w7 ⟨rfl,Q⟩;obtain⟨c0,c1,c2,c3,c4,c5,c6,c7,c8,c9,d0,d1,d2,d3,d4,d5,d6,d7,d8,d9,q0,q1,q2,q3,x0,x1,x2,y0,y1,y2,_⟩:=cE ap.out (j.trans Q))|(go_at_call 29;(with_reducible refine(zdL _ _ [0,0] (zbj w7 rfl (aQ.out.ext (j.trans Q)) (aR.out.ext (j.trans Q))) sM).mono ?_);rintro e w8 ⟨rfl,t⟩)|(go_at_call 9;(with_reducible refine(HA.out _ ((((l.out.trans j).trans Q).alloc _).trans t)).mono ?_);rintro e w9 ⟨rfl,ag⟩))
   go_ret;exact⟨rfl,((((l.out.trans j).trans Q).alloc _).trans t).trans ag⟩
  | true =>
   obtain rfl:cornersP p=L:=aO.out;obtain rfl:0=ce:=aU.out;have b:=aP.out;obtain⟨g1,g2,g3⟩:=zlB b;have af:=zfP b q;have hB:=zhv (way:=p.way) (zbL b).bd (zbL b).ne;have aZ:=zmh g3 hB _ (nE _);have aY:=fun(W:I)(v:M)(h:IsPr W v (turnR p.way p.shape))=>zi6 W v _ h g3
   have ab:=zdi (zao b).1;have bD:=(zbL b).ax;rw[HO.out,g1,g2]at af;rw[g1,g2]at ab;have av:=hd9 (au.out rfl);have bf:=hd9 (am.out rfl);have bQ:=hd9 (an.out rfl);have bX:=hd9 (ao.out rfl);have bL:=hd9 (fun(W:I)(r:Ext R W)(v:M)(h:IsPr W v (lowP2 p))=>zi2 W v _ (lowP2 p) q h (zao b).1 (zbp b).1 (aS.out.ext r) (Hq.out.mono dM));have bM:=hd9 (fun(W:I)(r:Ext R W)(v:M)(h:IsPr W v (upP2 p))=>zi2 W v _ (upP2 p) q h (zao b).2 (zcT b).1 (aS.out.ext r) (Hq.out.mono dM));have bN:=hd9 (And.intro (Rb.atG dM Hq.out (zao b).1) (Rb.atG dM Hq.out (zao b).2));have bC:=fun(W:I)(r:Ext R W)(z:Int)(hz:Bd 104000 z)(v2:M)(h2:IsQ W v2 (z:Rat))=>zi4 W _ v2 q (z:Rat) (aS.out.ext r) h2 (Hq.out.mono dM) ((zaC hz).mono dM)
   obtain⟨T,hT⟩:=gX (turnR p.way p.shape);rw[hT]at af aZ aY ab av;obtain⟨hX,bA⟩:=gX ((hgN T T.length).1);obtain⟨hZ,cb⟩:=gX ((hgN T T.length).2);rw[bA]at af aZ ab;simp only[bA,cb]at aY;obtain⟨hi,bB⟩:=gX (p.ax+hX);rw[bB]at af ab;have cr:IntKind.i64.wrap (p.ax+hX)=hi:=by rw[<-bB];exact iW _ (by have:=aZ.1;unfold Bd at *;omega)
   obtain⟨r1,cc⟩:=gX (rcmp q (p.ax:Rat));obtain⟨r2,cd⟩:=gX (rcmp q (hi:Rat));have be:=hd9 (fun(W:I)(r:Ext R W)(v2:M)(h2:IsQ W v2 (p.ax:Rat))=>bC W r p.ax ab.1 v2 h2);have aq:=hd9 (fun(W:I)(r:Ext R W)(v2:M)(h2:IsQ W v2 (hi:Rat))=>bC W r hi ab.2 v2 h2);rw[cc]at be af;rw[cd]at aq af;have bT:=hd9 (fun(W:I)=>zgg W p.ax (by unfold Bd at bD;omega) (by unfold Bd at bD;omega));have bg:=hd9 (fun(W:I)=>zgg W hi (by have:=ab.2;unfold Bd at this;omega) (by have:=ab.2;unfold Bd at this;omega));have bO:=hd9 aY;have aV:=hd9 af;clear aO aU HO aP au am an ao Hq aS b g1 g2 g3 af hB aZ aY ab bD bC hT bA cb bB cc cd
   go_upto_region 11 with (first|(go_at_call 27;(with_reducible refine(ac.out _ l.out).mono ?_);rintro e w6 ⟨rfl,j⟩;obtain⟨c0,c1,c2,c3,c4,c5,c6,c7,c8,c9,d0,d1,d2,d3,d4,d5,d6,d7,d8,d9,q0,q1,q2,q3,x0,x1,x2,y0,y1,y2,_⟩:=cE ap.out j)|(go_at_call 28;(with_reducible refine(ah.out _ _ (aw.out.ext' j)).mono ?_);rintro e w7 ⟨rfl,Q⟩;obtain⟨c0,c1,c2,c3,c4,c5,c6,c7,c8,c9,d0,d1,d2,d3,d4,d5,d6,d7,d8,d9,q0,q1,q2,q3,x0,x1,x2,y0,y1,y2,_⟩:=cE ap.out (j.trans Q))|(go_at_call 31;(with_reducible refine(bf.out _ ((l.out.trans j).trans Q)).mono ?_);rintro e w8 ⟨v8,rfl,bG,t⟩;obtain⟨a8,n8,k8,rfl⟩:=bG.form3)|(go_at_call 30;(with_reducible refine(zlK _ _ _ (cornersP p) (((ay.out.ext' j).ext' Q).ext' t) bG.pr).mono ?_);rintro e w9 ⟨rfl,ag⟩))
   have X9:Ext R w9:=((j.trans Q).trans t).trans ag;have bv:=hd9 X9;clear c0 c1 c2 c3 c4 c5 c6 c7 c8 c9 d0 d1 d2 d3 d4 d5 d6 d7 d8 d9 q0 q1 q2 q3 x0 x1 x2 y0 y1 y2 j Q t ag bG ac ah aw ay bf X9;refine wp_region_held_drew (S:=CellL [(⟨s,0,Y⟩,.string p.name),(⟨s,1,Y⟩,V sa sn sc),(⟨s,2,Y⟩,Z X p.depth),(⟨s,3,Y⟩,Z X p.density),(⟨s,4,Y⟩,Z X p.gx),(⟨s,5,Y⟩,Z X p.gz),(⟨s,6,Y⟩,Z X p.way),(⟨s,7,Y⟩,Z X p.ax),(⟨s,8,Y⟩,Z X p.az),(⟨s,9,Y⟩,Z .u8 p.skin),(⟨g,0,Y⟩,.string p.name),(⟨g,1,Y⟩,V a2 n2 k2),(⟨g,2,Y⟩,Z X p.depth),(⟨g,3,Y⟩,Z X p.density),(⟨g,4,Y⟩,Z X p.gx),(⟨g,5,Y⟩,Z X p.gz),(⟨g,6,Y⟩,Z X p.way),(⟨g,7,Y⟩,Z X p.ax),(⟨g,8,Y⟩,Z X p.az),(⟨g,9,Y⟩,Z .u8 p.skin),(⟨b6+1,0,Y⟩,Z X t4),(⟨b6+1,1,Y⟩,V a4 m4 k4),(⟨b6+1,2,Y⟩,Z X u4),(⟨b6+1,3,Y⟩,V e4 f4 g4),(⟨n,0,Y⟩,V a6 m6 k6),(⟨n,1,Y⟩,J l6),(⟨n,2,Y⟩,V e6 f6 g6),(⟨n+1,0,Y⟩,V a7 m7 k7),(⟨n+1,1,Y⟩,J l7),(⟨n+1,2,Y⟩,V e7 f7 g7)]) kM (cE ap.out bv.out.drew) (fun a=>?_);refine tk1 (i:=0) ?_;refine tk1 (i:=1) ?_;refine tk1 (i:=2) ?_;refine tk1 (i:=3) ?_;refine tk1 (i:=4) ?_;refine tk1 (i:=5) ?_;refine tk1 (i:=6) ?_;refine tk1 (i:=7) ?_;refine tk1 (i:=8) ?_;refine tk1 (i:=9) ?_;refine cl1 (i:=10) fun K d=>?_
   go_simp
   (with_reducible refine cM (av.out _ (l.out.trans bv.out).drew) ?_)
   rintro e cR ⟨cK,rfl,aB,aI⟩;obtain⟨ca,ck,cj,rfl⟩:=aB.form3
   go_wp2_with fail
   refine kO d (cE a aI) (fun a=>?_);clear d K;have hF:∀W:I,(Instr.field 29 (.agg #[.string p.name,V ca ck cj,Z X p.depth,Z X p.density,Z X (layR p.way (p.gx,p.gz)).1,Z X (layR p.way (p.gx,p.gz)).2]) 1).run Tryz.prog W = .ok (V ca ck cj) W:=fun W=>by kernel_rfl
   have cF:∀W:I,(Instr.field 27 (.agg #[Z X hX,Z X hZ]) 0).run Tryz.prog W = .ok (Z X hX) W:=fun W=>by kernel_rfl
   refine tk1 (i:=11) ?_;refine cl1 (i:=12) fun K d=>?_
   go_simp
   (with_reducible refine cM (bO.out _ _ aB.pr) ?_)
   rintro e cS ⟨rfl,aJ⟩
   skip
   go_wp2_with fail
   refine kO d (cE a aJ) (fun a=>?_);clear d K;refine sN 13 ?_
   iterate 4
    refine tkn ?_
   refine oN ?_;refine wpAnyH_done kM ?_ _;have ak:=hd9 (bv.out.drew.trans (aI.trans aJ));clear aI aJ aB av bO cr
   go_upto_region 12 with fail
   refine wp_region_held_drew (S:=CellL [(⟨s,0,Y⟩,.string p.name),(⟨s,1,Y⟩,V sa sn sc),(⟨s,2,Y⟩,Z X p.depth),(⟨s,3,Y⟩,Z X p.density),(⟨s,4,Y⟩,Z X p.gx),(⟨s,5,Y⟩,Z X p.gz),(⟨s,6,Y⟩,Z X p.way),(⟨s,7,Y⟩,Z X p.ax),(⟨s,8,Y⟩,Z X p.az),(⟨s,9,Y⟩,Z .u8 p.skin),(⟨g,0,Y⟩,.string p.name),(⟨g,1,Y⟩,V a2 n2 k2),(⟨g,2,Y⟩,Z X p.depth),(⟨g,3,Y⟩,Z X p.density),(⟨g,4,Y⟩,Z X p.gx),(⟨g,5,Y⟩,Z X p.gz),(⟨g,6,Y⟩,Z X p.way),(⟨g,7,Y⟩,Z X p.ax),(⟨g,8,Y⟩,Z X p.az),(⟨g,9,Y⟩,Z .u8 p.skin),(⟨b6+1,0,Y⟩,Z X t4),(⟨b6+1,1,Y⟩,V a4 m4 k4),(⟨b6+1,2,Y⟩,Z X u4),(⟨b6+1,3,Y⟩,V e4 f4 g4),(⟨n,0,Y⟩,V a6 m6 k6),(⟨n,1,Y⟩,J l6),(⟨n,2,Y⟩,V e6 f6 g6),(⟨n+1,0,Y⟩,V a7 m7 k7),(⟨n+1,1,Y⟩,J l7),(⟨n+1,2,Y⟩,V e7 f7 g7)]) kM a (fun a=>?_);refine sN 0 ?_
   iterate 2
    refine tkn ?_
   refine oN ?_;refine cl1 (i:=2) fun K d=>?_
   go_simp
   (with_reducible refine cM (bT.out _) ?_)
   rintro e ct ⟨cL,rfl,aC,aK⟩;obtain⟨s9,a9,m9,k9,t9,e9,i9,j9,rfl⟩:=aC.form
   go_wp2_with fail
   refine kO d (cE a aK) (fun a=>?_);clear d K;have bw:Ext R ct:=ak.out.drew.trans aK;refine cl1 (i:=3) fun K d=>?_
   go_simp
   (with_reducible refine cM (be.out _ bw _ aC) ?_)
   rintro e cl ⟨rfl,aL⟩
   skip
   go_wp2_with fail
   refine kO d (cE a aL) (fun a=>?_);clear d K;have b0:Ext R cl:=bw.trans aL;have ad:=hd9 b0;clear bw aK aL aC b0
   rcases aV.out with ⟨e1,e2⟩|⟨e1,e2,e3⟩|⟨e1,e2,e3⟩
   ·obtain⟨rfl,rfl,rfl⟩:o1=0/\o2=0/\k=11:=by simpa using e2
    have d1:decide (r1<0)=true:=by simpa using e1
    clear aV e1 e2;refine sN 4 ?_
    iterate 2
     refine tkn ?_
    refine oN ?_;refine tkg1 (i:=6) ?_;refine tkg1 (i:=7) ?_;refine tkg1 (i:=8) ?_;refine tkg1 (i:=9) ?_;refine tkg1 (i:=10) ?_;refine tk1 (i:=11) ?_;refine wpAnyH_done kM ?_ _;have f:=ad;obtain⟨bc,ew⟩:∃W,W=cl:=⟨_,rfl⟩;rw[<-ew]at a f ⊢;clear ew;obtain⟨c0,c1,c2,c3,c4,c5,c6,c7,c8,c9,d0,d1,d2,d3,d4,d5,d6,d7,d8,d9,q0,q1,q2,q3,x0,x1,x2,y0,y1,y2,_⟩:=a
    go_wp2_with(first|(go_at_call 29;(with_reducible refine(zdL _ _ [0,0] (zbj bc rfl (aQ.out.ext f.out) (aR.out.ext f.out)) sM).mono ?_);rintro e w8 ⟨rfl,t⟩)|(go_at_call 9;(with_reducible refine(HA.out _ (((l.out.trans f.out).alloc _).trans t)).mono ?_);rintro e w9 ⟨rfl,ag⟩))
    go_ret;exact⟨rfl,(((l.out.trans f.out).alloc _).trans t).trans ag⟩
   ·obtain⟨rfl,rfl,rfl⟩:o1=0/\o2=0/\k=11:=by simpa using e3
    have d1:decide (r1<0)=false:=by simpa using e1
    have d2:decide (0<r2)=true:=by simpa using e2
    clear aV e1 e2 e3;refine tk1 (i:=4) ?_;refine tk1 (i:=5) ?_;refine tk1 (i:=6) ?_;refine tk1 (i:=7) ?_;refine cl1 (i:=8) fun K d=>?_
    go_simp
    (with_reducible refine cM (bg.out _) ?_)
    rintro e cu ⟨cs,rfl,y,m⟩;obtain⟨s9,a9,m9,k9,t9,e9,i9,j9,rfl⟩:=y.form
    go_wp2_with fail
    refine kO d (cE a m) (fun a=>?_);clear d K;refine cl1 (i:=9) fun K d=>?_
    go_simp
    (with_reducible refine cM (aq.out _ (ad.out.trans m) _ y) ?_)
    rintro e bc ⟨rfl,P⟩
    skip
    go_wp2_with fail
    refine kO d (cE a P) (fun a=>?_);clear d K;refine sN 10 ?_
    iterate 2
     refine tkn ?_
    refine oN ?_;refine wpAnyH_done kM ?_ _;have f:=hd9 ((ad.out.trans m).trans P);clear m P y;obtain⟨c0,c1,c2,c3,c4,c5,c6,c7,c8,c9,d0,d1,d2,d3,d4,d5,d6,d7,d8,d9,q0,q1,q2,q3,x0,x1,x2,y0,y1,y2,_⟩:=a
    go_wp2_with(first|(go_at_call 29;(with_reducible refine(zdL _ _ [0,0] (zbj bc rfl (aQ.out.ext f.out) (aR.out.ext f.out)) sM).mono ?_);rintro e w8 ⟨rfl,t⟩)|(go_at_call 9;(with_reducible refine(HA.out _ (((l.out.trans f.out).alloc _).trans t)).mono ?_);rintro e w9 ⟨rfl,ag⟩))
    go_ret;exact⟨rfl,(((l.out.trans f.out).alloc _).trans t).trans ag⟩
   ·obtain⟨rfl,rfl,rfl⟩:o1=atR (lowP2 p) q/\o2=atR (upP2 p) q/\k=0:=by simpa using e3
    have d1:decide (r1<0)=false:=by simpa using e1
    have d2:decide (0<r2)=false:=by simpa using e2
    clear aV e1 e2 e3;refine tk1 (i:=4) ?_;refine tk1 (i:=5) ?_;refine tk1 (i:=6) ?_;refine tk1 (i:=7) ?_;refine cl1 (i:=8) fun K d=>?_
    go_simp
    (with_reducible refine cM (bg.out _) ?_)
    rintro e cu ⟨cs,rfl,y,m⟩;obtain⟨s9,a9,m9,k9,t9,e9,i9,j9,rfl⟩:=y.form
    go_wp2_with fail
    refine kO d (cE a m) (fun a=>?_);clear d K;refine cl1 (i:=9) fun K d=>?_
    go_simp
    (with_reducible refine cM (aq.out _ (ad.out.trans m) _ y) ?_)
    rintro e bc ⟨rfl,P⟩
    skip
    go_wp2_with fail
    refine kO d (cE a P) (fun a=>?_);clear d K;refine sN 10 ?_
    iterate 2
     refine tkn ?_
    refine oN ?_;refine wpAnyH_done kM ?_ _;have f:=hd9 ((ad.out.trans m).trans P);clear m P y
    go_upto_region 14 with fail
    refine wp_region_held_drew (S:=CellL [(⟨s,0,Y⟩,.string p.name),(⟨s,1,Y⟩,V sa sn sc),(⟨s,2,Y⟩,Z X p.depth),(⟨s,3,Y⟩,Z X p.density),(⟨s,4,Y⟩,Z X p.gx),(⟨s,5,Y⟩,Z X p.gz),(⟨s,6,Y⟩,Z X p.way),(⟨s,7,Y⟩,Z X p.ax),(⟨s,8,Y⟩,Z X p.az),(⟨s,9,Y⟩,Z .u8 p.skin),(⟨g,0,Y⟩,.string p.name),(⟨g,1,Y⟩,V a2 n2 k2),(⟨g,2,Y⟩,Z X p.depth),(⟨g,3,Y⟩,Z X p.density),(⟨g,4,Y⟩,Z X p.gx),(⟨g,5,Y⟩,Z X p.gz),(⟨g,6,Y⟩,Z X p.way),(⟨g,7,Y⟩,Z X p.ax),(⟨g,8,Y⟩,Z X p.az),(⟨g,9,Y⟩,Z .u8 p.skin),(⟨b6+1,0,Y⟩,Z X t4),(⟨b6+1,1,Y⟩,V a4 m4 k4),(⟨b6+1,2,Y⟩,Z X u4),(⟨b6+1,3,Y⟩,V e4 f4 g4),(⟨n,0,Y⟩,V a6 m6 k6),(⟨n,1,Y⟩,J l6),(⟨n,2,Y⟩,V e6 f6 g6),(⟨n+1,0,Y⟩,V a7 m7 k7),(⟨n+1,1,Y⟩,J l7),(⟨n+1,2,Y⟩,V e7 f7 g7)]) kM a (fun a=>?_);refine tk1 (i:=0) ?_;refine tk1 (i:=1) ?_;refine tk1 (i:=2) ?_;refine tk1 (i:=3) ?_;refine tk1 (i:=4) ?_;refine tk1 (i:=6) ?_;refine cl1 (i:=5) fun K d=>?_
    go_simp
    (with_reducible refine cM (bQ.out _ (l.out.trans f.out).drew) ?_)
    rintro e cv ⟨cN,rfl,bh,bl⟩;obtain⟨cC,cI,cG,rfl⟩:=bh.form3
    go_wp2_with fail
    refine kO d (cE a bl) (fun a=>?_);clear d K;have b1:Ext R cv:=f.out.drew.trans bl;refine cl1 (i:=7) fun K d=>?_
    go_simp
    (with_reducible refine cM (bL.out _ b1 _ bh.pr) ?_)
    rintro e cw ⟨cO,rfl,bi,bm⟩;obtain⟨s9,a9,m9,k9,t9,e9,i9,j9,rfl⟩:=bi.form
    go_wp2_with fail
    refine kO d (cE a bm) (fun a=>?_);clear d K;have b2:Ext R cw:=b1.trans bm;refine cl1 (i:=8) fun K d=>?_
    go_simp
    (with_reducible refine cM (zhn _ _ _ _ (aQ.out.ext b2) bi (bN.out.1.mono dM)) ?_)
    rintro e cx ⟨rfl,bn⟩
    skip
    go_wp2_with fail
    refine kO d (cE a bn) (fun a=>?_);clear d K;have b3:Ext R cx:=b2.trans bn;refine tk1 (i:=9) ?_;refine tk1 (i:=10) ?_;refine tk1 (i:=11) ?_;refine tk1 (i:=12) ?_;refine tk1 (i:=14) ?_;refine cl1 (i:=13) fun K d=>?_
    go_simp
    (with_reducible refine cM (bX.out _ (l.out.trans b3)) ?_)
    rintro e cy ⟨cP,rfl,bj,bo⟩;obtain⟨cD,cJ,cH,rfl⟩:=bj.form3
    go_wp2_with fail
    refine kO d (cE a bo) (fun a=>?_);clear d K;have b4:Ext R cy:=b3.trans bo;refine cl1 (i:=15) fun K d=>?_
    go_simp
    (with_reducible refine cM (bM.out _ b4 _ bj.pr) ?_)
    rintro e cz ⟨cQ,rfl,bk,bp⟩;obtain⟨s8,a8,m8,k8,t8,e8,i8,j8,rfl⟩:=bk.form
    go_wp2_with fail
    refine kO d (cE a bp) (fun a=>?_);clear d K;have b7:Ext R cz:=b4.trans bp;refine cl1 (i:=16) fun K d=>?_
    go_simp
    (with_reducible refine cM (zhn _ _ _ _ (aR.out.ext b7) bk (bN.out.2.mono dM)) ?_)
    rintro e cB ⟨rfl,bq⟩
    skip
    go_wp2_with fail
    refine kO d (cE a bq) (fun a=>?_);clear d K;have b9:Ext R cB:=b7.trans bq;refine sN 17 ?_
    iterate 2
     refine tkn ?_
    refine oN ?_;refine cl1 (i:=19) fun K d=>?_
    go_simp
    (with_reducible refine cM (HA.out _ (l.out.trans b9)) ?_)
    rintro e cT ⟨rfl,br⟩
    skip
    go_wp2_with fail
    refine kO d (cE a br) (fun a=>?_);clear d K;have co:=(l.out.trans b9).trans br;refine sN 20 ?_
    iterate 2
     refine tkn ?_
    refine oN ?_;refine wpAnyH_done kM ?_ _;go_wp2;go_ret;exact⟨rfl,co⟩
end
end Go.Proofs.YtjnjpagegkcgfaaGreatDoor.Cop
