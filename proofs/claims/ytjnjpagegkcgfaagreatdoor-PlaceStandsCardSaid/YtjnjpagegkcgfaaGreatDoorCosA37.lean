/- Part 38. -/
import Derived.Test.YtjnjpagegkcgfaaGreatDoorCosA36
import Derived.Test.YtjnjpagegkcgfaaGreatDoorCosA17
set_option maxRecDepth 1000000
set_option maxHeartbeats 16000000
set_option linter.unusedSimpArgs false
set_option linter.unusedVariables false
open Go.Value renaming slice->Y,bool->X,int->I,agg->N
open Option renaming none->Z
open Go renaming World->V,Value->M
open Go.IntKind renaming i64->J
namespace Go.Proofs.YtjnjpagegkcgfaaGreatDoor.Cop
section
open Go.RowKit Go.Shelf Go.Sort Go.Lib
attribute [local go_sem] Oper.semAt_some
def sidP(p:Pl)(x:Rat):Rat×Rat×Int:=if placedOk p=true then (if ((lineL (lowP2 p):Int):Rat)<=x/\x<=((lineR (lowP2 p):Int):Rat)then (atR (lowP2 p) x,atR (upP2 p) x,0)else (0,0,11))else (0,0,2)
def RetSp(w:V)(o:Rat×Rat×Int)(e:Ending)(w':V):Prop:=∃r s,e = .returned (.tuple #[r,s,I J o.2.2])/\IsR w' r o.1/\IsR w' s o.2.1/\Ext w w'
theorem zkk(w:V)(v vx:M)(p:Pl)(x:Rat)(hv:IsPts w v p.shape)(hx:IsR w vx x)(T:0<=p.skin)(j:placedOk p=false) :
  Calls Tryz.prog 26 #[N (plc p v),vx] w (RetSp w (0,0,2)):=by
 have r:=hd9 (fun(W:V)(hW:Ext w W)=>zau W p _ (hv.ext' hW) T);rw[if_neg (by rw[j];decide)]at r;obtain⟨sa,sn,ag,rfl⟩:=form3 hv;obtain⟨xa,xm,xc,xs,ah,aj,ai,rfl⟩:=hx.form;obtain⟨R,s⟩:=gX (RetSp w (0,0,2));rw[s];have HR:=hd9 s;clear s hv hx T j;unfold plc at r ⊢;go_enter Tryz.func26,Tryz.ntmps26
 go_upto_region 3 with (go_at_call 28;(with_reducible refine(r.out _ ?_).mono ?_);exact eA;rintro e t ⟨rfl,b⟩)
 have z5:=b.size;simp only[wZ]at z5;have u:RB t (w.heap.size+1+1) 0:=((RB.new (IsR.zero _) sM).ext ((eR _).alloc _)).ext b;have y:RB t (w.heap.size+1+1+1) 0:=(RB.new (IsR.zero _) sM).ext b;have X5:Ext w t:=eA;clear b;obtain⟨pa,pm,n,ps,m,q,o,p0,p1,p2,ad,ae,af,pz,k⟩:=u.rd;obtain⟨D,P,L,Q,d,g,f,e0,e1,e2,aa,ab,ac,ez,l⟩:=y.rd;refine zae (fun i=>decide (4<i)) (CellL [(⟨w.heap.size+1+1,0,Z⟩,Y pa pm n),(⟨w.heap.size+1+1,1,Z⟩,X ps),(⟨w.heap.size+1+1,2,Z⟩,Y m q o),(⟨w.heap.size+1+1+1,0,Z⟩,Y D P L),(⟨w.heap.size+1+1+1,1,Z⟩,X Q),(⟨w.heap.size+1+1+1,2,Z⟩,Y d g f)]) kM ?_ (fun a=>?_)
 ·exact cA
 refine sN 0 ?_
 iterate 3
  refine tun ?_
 refine oN ?_;refine cu1 (i:=3) fun K c=>?_
 go_simp;refine kO c (fun _=>?_) (fun a=>?_)
 ·exact cA
 clear c K;have a:=a rfl;refine cu1 (i:=4) fun K c=>?_
 go_simp;refine kO c (fun _=>?_) (fun a=>?_)
 ·exact cA
 clear c K;have a:=a rfl;refine cu1 (i:=5) fun K c=>?_
 go_simp;refine kO c (fun h=>nomatch h) (fun a=>?_);clear c K;refine doneHU kM ?_ _;go_wp2;refine bR (v:=.tuple #[N #[Y pa pm n,X ps,Y m q o],N #[Y D P L,X Q,Y d g f],I J 2]) (by simp[results,Tryz.results26,go_sem,p0,p1,p2,e0,e1,e2]) rfl ?_;obtain⟨P1,P2,P3,z,P5,P6⟩:=RB.copy2 u y oM k l rfl rfl;rw[<-HR.out];exact⟨_,_,rfl,(k.keep z).ext (eR _).drew,(l.keep z).ext (eR _).drew,(P6 w X5 oM oM).drew⟩
theorem zfP{p:Pl}(a:placedOk p=true)(x:Rat):(rcmp x ((lineL (lowP2 p):Int):Rat)<0/\sidP p x=(0,0,11))\/(¬rcmp x ((lineL (lowP2 p):Int):Rat)<0/\0<rcmp x ((lineR (lowP2 p):Int):Rat)/\sidP p x=(0,0,11)) \/
   (¬rcmp x ((lineL (lowP2 p):Int):Rat)<0/\¬0<rcmp x ((lineR (lowP2 p):Int):Rat)/\sidP p x=(atR (lowP2 p) x,atR (upP2 p) x,0)):=by
 have b:sidP p x=if ((lineL (lowP2 p):Int):Rat)<=x/\x<=((lineR (lowP2 p):Int):Rat)then (atR (lowP2 p) x,atR (upP2 p) x,0)else (0,0,11):=if_pos a
 rw[b]
 by_cases d:x<((lineL (lowP2 p):Int):Rat)
 ·exact .inl ⟨(zdY _ _).2 d,if_neg fun h=>by grind⟩
 ·have c:¬rcmp x ((lineL (lowP2 p):Int):Rat)<0:=fun h=>d ((zdY _ _).1 h)
  by_cases e:((lineR (lowP2 p):Int):Rat)<x
  ·exact .inr (.inl ⟨c,(zeZ _ _).2 e,if_neg fun h=>by grind⟩)
  ·exact .inr (.inr ⟨c,fun h=>e ((zeZ _ _).1 h),if_pos ⟨by grind,by grind⟩⟩)
theorem zlI(w:V)(v vx:M)(p:Pl)(x:Rat)(hv:IsPts w v p.shape)(hx:IsR w vx x)(hb:Rb 1000 x)(hk:0<=p.skin)(aU:Gw w)(ag:placedOk p=true) :
  Calls Tryz.prog 26 #[N (plc p v),vx] w (RetSp w (sidP p x)):=by
 obtain⟨o1,o2⟩:=zao ag;have l1:=zdi o1;have HK:=hd9 (fun(W:V)(r:Ext w W)=>zau W p _ (hv.ext' r) hk);rw[if_pos ag]at HK;have HO:=hd9 (fun(W:V)(r:Ext w W)=>zaR W p _ (hv.ext' r) ag (aU.ext r));have HA:=hd9 (fun(W:V)(vl:M)(o:IsPts W vl (lowP2 p))=>zbo W vl (lowP2 p) o (List.length_pos_iff.2 o1.1));have HB:=hd9 (fun(W:V)(vl:M)(o:IsPts W vl (lowP2 p))=>zbi W vl (lowP2 p) o (List.length_pos_iff.2 o1.1));have HC:=hd9 (fun(W:V)(r:Ext w W)(z:Int)(hz:Bd 104000 z)(v2:M)(h2:IsR W v2 (z:Rat))=>zaE W vx v2 x (z:Rat) (hx.ext r) h2 (hb.mono dM) (zat (zaC hz) dM));have HL:=hd9 (fun(W:V)(r:Ext w W)(vl:M)(o:IsPts W vl (lowP2 p))=>zdI W vl vx (lowP2 p) x o o1 (hx.ext r) hb);have HU:=hd9 (fun(W:V)(r:Ext w W)(vl:M)(o:IsPts W vl (upP2 p))=>zdI W vl vx (upP2 p) x o o2 (hx.ext r) hb);have af:=zfP ag x;obtain⟨O,hO⟩:=gX (sidP p x);rw[hO]at af ⊢;obtain⟨sa,sn,aY,rfl⟩:=form3 hv;obtain⟨xa,xm,xc,xs,aE,aG,aF,rfl⟩:=hx.form;obtain⟨R,hR⟩:=gX (RetSp w O);rw[hR];have HR:=hd9 hR;obtain⟨lo,aC⟩:=gX (lineL (lowP2 p));obtain⟨hi,aB⟩:=gX (lineR (lowP2 p));rw[aC,aB]at l1;rw[aC,aB]at af;rw[aC]at HA;rw[aB]at HB;obtain⟨k1,e1⟩:=gX (rcmp x (lo:Rat));obtain⟨k2,e2⟩:=gX (rcmp x (hi:Rat));have aa:=hd9 (fun(W:V)(r:Ext w W)(v2:M)(h2:IsR W v2 (lo:Rat))=>HC.out W r lo l1.1 v2 h2);have s:=hd9 (fun(W:V)(r:Ext w W)(v2:M)(h2:IsR W v2 (hi:Rat))=>HC.out W r hi l1.2 v2 h2);rw[e1]at aa;rw[e2]at s;have ay:=hd9 (fun(W:V)=>zaP W lo (by have:=l1.1;unfold Bd at this;omega) (by have:=l1.1;unfold Bd at this;omega));have ab:=hd9 (fun(W:V)=>zaP W hi (by have:=l1.2;unfold Bd at this;omega) (by have:=l1.2;unfold Bd at this;omega));rw[e1,e2]at af;have aA:=hd9 af;clear HC e1 e2 aC aB hR hv hx hb hk aU ag hO af o1 o2 l1;unfold plc at HK HO ⊢;unfold RetO lac at HO;go_enter Tryz.func26,Tryz.ntmps26
 go_upto_region 5 with (first|(go_at_call 28;(with_reducible refine(HK.out _ ?_).mono ?_);exact eA;rintro e w5 ⟨rfl,an⟩;obtain⟨be,bg⟩:=an.cells;(have z5:=an.size);(simp only[wZ]at z5);(have bB:w.heap.size<w5.heap.size:=oM);(have bC:w.heap.size+1<w5.heap.size:=oM))|(go_at_call 50;(with_reducible refine(HO.out _ ?_).mono ?_);exact eA;rintro e w6 ⟨vl,vu,rfl,aI,aJ,t⟩;obtain⟨u,D,y,rfl⟩:=form3 aI;obtain⟨L,T,Q,rfl⟩:=form3 aJ;obtain⟨bf,bh⟩:=t.cells;(have z6:=t.size);(have bD:w.heap.size+1<w6.heap.size:=oM)))
 have zq:w.heap.size+1+1+1+1<=w5.heap.size:=z5;have zr:=t.size;have H2:RB w6 (w.heap.size+1+1) 0:=((RB.new (IsR.zero _) sM).ext ((eR _).alloc _)).ext (an.trans t);have H3:RB w6 (w.heap.size+1+1+1) 0:=(RB.new (IsR.zero _) sM).ext (an.trans t);have X6:Ext w w6:=eA;have zt:w.heap.size+1<w6.heap.size+1:=oM
 have zu:w.heap.size+1<w.heap.size+1+1+1+1:=oM
 have bE:w.heap.size+1<w.heap.size+1+1+1:=oM
 have hC:CellL [(⟨w.heap.size+1,0,Z⟩,Y xa xm xc),(⟨w.heap.size+1,1,Z⟩,X xs),(⟨w.heap.size+1,2,Z⟩,Y aE aG aF),(⟨w6.heap.size,10,Z⟩,Y u D y),(⟨w6.heap.size,11,Z⟩,Y L T Q)] (w6.alloc (.cells #[.string p.name,Y sa sn aY,I J p.depth,I J p.density,I J p.gx,I J p.gz,I J p.way,I J p.ax,I J p.az,I .u8 p.skin,Y u D y,Y L T Q] 128)):=by
  refine⟨?_,?_,?_,?_,?_,trivial⟩<;>go_simp
 obtain⟨Wa,aD⟩:=gX (w6.alloc (.cells #[.string p.name,Y sa sn aY,I J p.depth,I J p.density,I J p.gx,I J p.gz,I J p.way,I J p.ax,I J p.az,I .u8 p.skin,Y u D y,Y L T Q] 128));rw[aD]at hC ⊢;have XA:Ext w6 Wa:=by rw[<-aD];exact(eR _).alloc _
 have o:=aI.ext' XA;have hu:=aJ.ext' XA;have H2:=H2.ext XA;have H3:=H3.ext XA;have XW:Ext w Wa:=X6.trans XA;have zz:w6.heap.size<Wa.heap.size:=by rw[<-aD];simp
 obtain⟨b8,aT⟩:=gX w6.heap.size;simp only[aT]at *;have zy:w.heap.size+1+1+1<b8:=oM
 clear be bg z5 bB bC bf bh z6 bD an t aI aJ aD aT zq zr zt zu bE X6 XA HK HO;refine wp_region_held_drew (S:=CellL [(⟨w.heap.size+1,0,Z⟩,Y xa xm xc),(⟨w.heap.size+1,1,Z⟩,X xs),(⟨w.heap.size+1,2,Z⟩,Y aE aG aF),(⟨b8,10,Z⟩,Y u D y),(⟨b8,11,Z⟩,Y L T Q)]) kM hC (fun a=>?_);refine sN 0 ?_
 iterate 3
  refine tkn ?_
 refine oN ?_;refine cl1 (i:=3) fun K c=>?_
 go_simp
 (with_reducible refine cM (HA.out _ _ (o.ext' (eR Wa).drew)) ?_)
 rintro e w7 ⟨rfl,ao⟩
 skip
 go_wp2_with fail
 refine kO c (cE a ao) (fun a=>?_);clear c K;refine cl1 (i:=4) fun K c=>?_
 go_simp
 (with_reducible refine cM (ay.out _) ?_)
 rintro e w8 ⟨r8,rfl,am,ap⟩;obtain⟨a8,m8,c8,s8,b9,n8,k8,rfl⟩:=am.form
 go_wp2_with fail
 refine kO c (cE a ap) (fun a=>?_);clear c K;have X8:Ext Wa w8:=((eR Wa).drew).trans (ao.trans ap);refine cl1 (i:=5) fun K c=>?_
 go_simp
 (with_reducible refine cM (aa.out _ (XW.trans X8) _ am) ?_)
 rintro e w9 ⟨rfl,aq⟩
 skip
 go_wp2_with fail
 refine kO c (cE a aq) (fun a=>?_);clear c K;have X9:Ext Wa w9:=X8.trans aq
 rcases aA.out with ⟨c1,rfl⟩|⟨c1,c2,rfl⟩|⟨c1,c2,rfl⟩
 ·clear aA
  have d1:decide (k1<0)=true:=by simpa using c1
  refine sN 6 ?_
  iterate 2
   refine tkn ?_
  iterate 7
   refine tkgn ?_
  refine tkn ?_;refine oN ?_;refine wpAnyH_done kM ?_ _;have G4:=H2.ext X9;have G5:=H3.ext X9;have XZ:=XW.trans X9;clear ao ap aq am X8 X9 XW o hu HA HB aa s ay ab
  go_upto_region 6 with fail
  obtain⟨pa,pm,au,ps,ar,aw,av,p0,p1,p2,br,bs,bt,pz,ah⟩:=G4.rd;obtain⟨ea,em,ec,es,ac,ae,ad,e0,e1,e2,ba,bb,bc,ez,ai⟩:=G5.rd;refine zae (fun i=>decide (2<i)) (CellL [(⟨w.heap.size+1+1,0,Z⟩,Y pa pm au),(⟨w.heap.size+1+1,1,Z⟩,X ps),(⟨w.heap.size+1+1,2,Z⟩,Y ar aw av),(⟨w.heap.size+1+1+1,0,Z⟩,Y ea em ec),(⟨w.heap.size+1+1+1,1,Z⟩,X es),(⟨w.heap.size+1+1+1,2,Z⟩,Y ac ae ad)]) kM ?_ (fun a=>?_)
  ·exact cA
  refine sN 0 ?_
  iterate 2
   refine tun ?_
  refine oN ?_;refine cu1 (i:=2) fun K c=>?_
  go_simp;refine kO c (fun _=>?_) (fun a=>?_)
  ·exact cA
  clear c K;have a:=a rfl;refine cu1 (i:=3) fun K c=>?_
  go_simp;refine kO c (fun h=>nomatch h) (fun a=>?_);clear c K;refine cu1 (i:=4) fun K c=>?_
  go_simp;refine kO c (fun h=>nomatch h) (fun a=>?_);clear c K;refine doneHU kM ?_ _;go_wp2;refine bR (v:=.tuple #[N #[Y pa pm au,X ps,Y ar aw av],N #[Y ea em ec,X es,Y ac ae ad],I J 11]) (by simp[results,Tryz.results26,go_sem,p0,p1,p2,e0,e1,e2]) rfl ?_;obtain⟨P1,P2,P3,P4,P5,P6⟩:=RB.copy2 G4 G5 oM ah ai rfl rfl;rw[<-HR.out];exact⟨_,_,rfl,(ah.keep P4).ext (eR _).drew,(ai.keep P4).ext (eR _).drew,(P6 w XZ oM oM).drew⟩
 ·clear aA
  have d1:decide (k1<0)=false:=by simpa using c1
  refine sN 6 ?_
  iterate 5
   refine tkn ?_
  refine oN ?_;refine cl1 (i:=11) fun K c=>?_
  go_simp
  (with_reducible refine cM (HB.out _ _ (o.ext' X9)) ?_)
  rintro e bz ⟨rfl,g⟩
  skip
  go_wp2_with fail
  refine kO c (cE a g) (fun a=>?_);clear c K;refine cl1 (i:=12) fun K c=>?_
  go_simp
  (with_reducible refine cM (ab.out _) ?_)
  rintro e aK ⟨bu,rfl,f,j⟩;obtain⟨a0,bl,a6,bv,a3,bo,bi,rfl⟩:=f.form
  go_wp2_with fail
  refine kO c (cE a j) (fun a=>?_);clear c K;have n:Ext Wa aK:=X9.trans (g.trans j);refine cl1 (i:=13) fun K c=>?_
  go_simp
  (with_reducible refine cM (s.out _ (XW.trans n) _ f) ?_)
  rintro e aL ⟨rfl,k⟩
  skip
  go_wp2_with fail
  refine kO c (cE a k) (fun a=>?_);clear c K;have d:Ext Wa aL:=n.trans k;have d2:decide (0<k2)=true:=by simpa using c2
  refine sN 14 ?_
  iterate 2
   refine tkn ?_
  refine oN ?_;refine wpAnyH_done kM ?_ _;have G4:=H2.ext d;have G5:=H3.ext d;have XZ:=XW.trans d;clear ao ap aq g j k am f X8 X9 n d XW o hu HA HB aa s ay ab
  go_upto_region 6 with fail
  obtain⟨pa,pm,au,ps,ar,aw,av,p0,p1,p2,br,bs,bt,pz,ah⟩:=G4.rd;obtain⟨ea,em,ec,es,ac,ae,ad,e0,e1,e2,ba,bb,bc,ez,ai⟩:=G5.rd;refine zae (fun i=>decide (2<i)) (CellL [(⟨w.heap.size+1+1,0,Z⟩,Y pa pm au),(⟨w.heap.size+1+1,1,Z⟩,X ps),(⟨w.heap.size+1+1,2,Z⟩,Y ar aw av),(⟨w.heap.size+1+1+1,0,Z⟩,Y ea em ec),(⟨w.heap.size+1+1+1,1,Z⟩,X es),(⟨w.heap.size+1+1+1,2,Z⟩,Y ac ae ad)]) kM ?_ (fun a=>?_)
  ·exact cA
  refine sN 0 ?_
  iterate 2
   refine tun ?_
  refine oN ?_;refine cu1 (i:=2) fun K c=>?_
  go_simp;refine kO c (fun _=>?_) (fun a=>?_)
  ·exact cA
  clear c K;have a:=a rfl;refine cu1 (i:=3) fun K c=>?_
  go_simp;refine kO c (fun h=>nomatch h) (fun a=>?_);clear c K;refine cu1 (i:=4) fun K c=>?_
  go_simp;refine kO c (fun h=>nomatch h) (fun a=>?_);clear c K;refine doneHU kM ?_ _;go_wp2;refine bR (v:=.tuple #[N #[Y pa pm au,X ps,Y ar aw av],N #[Y ea em ec,X es,Y ac ae ad],I J 11]) (by simp[results,Tryz.results26,go_sem,p0,p1,p2,e0,e1,e2]) rfl ?_;obtain⟨P1,P2,P3,P4,P5,P6⟩:=RB.copy2 G4 G5 oM ah ai rfl rfl;rw[<-HR.out];exact⟨_,_,rfl,(ah.keep P4).ext (eR _).drew,(ai.keep P4).ext (eR _).drew,(P6 w XZ oM oM).drew⟩
 ·clear aA
  have d1:decide (k1<0)=false:=by simpa using c1
  refine sN 6 ?_
  iterate 5
   refine tkn ?_
  refine oN ?_;refine cl1 (i:=11) fun K c=>?_
  go_simp
  (with_reducible refine cM (HB.out _ _ (o.ext' X9)) ?_)
  rintro e bz ⟨rfl,g⟩
  skip
  go_wp2_with fail
  refine kO c (cE a g) (fun a=>?_);clear c K;refine cl1 (i:=12) fun K c=>?_
  go_simp
  (with_reducible refine cM (ab.out _) ?_)
  rintro e aK ⟨bu,rfl,f,j⟩;obtain⟨a0,bl,a6,bv,a3,bo,bi,rfl⟩:=f.form
  go_wp2_with fail
  refine kO c (cE a j) (fun a=>?_);clear c K;have n:Ext Wa aK:=X9.trans (g.trans j);refine cl1 (i:=13) fun K c=>?_
  go_simp
  (with_reducible refine cM (s.out _ (XW.trans n) _ f) ?_)
  rintro e aL ⟨rfl,k⟩
  skip
  go_wp2_with fail
  refine kO c (cE a k) (fun a=>?_);clear c K;have d:Ext Wa aL:=n.trans k;have d2:decide (0<k2)=false:=by simpa using c2
  refine sN 14 ?_
  iterate 2
   refine tkn ?_
  refine oN ?_;refine wpAnyH_done kM ?_ _;have H2:=H2.ext d;have H3:=H3.ext d;obtain⟨_,_,_,_,_,_,_,x0,x1,x2,aM,aO,aP,xz,_⟩:=H2.rd;obtain⟨_,_,_,_,_,_,_,y0,y1,y2,aQ,aR,aS,yz,_⟩:=H3.rd;have aV:=o.ext' d;have aX:=hu.ext' d;have XZ:=XW.trans d;clear ao ap aq g j k am f X8 X9 n d XW o hu HA HB aa s ay ab
  go_upto_region 7 with fail
  refine wp_region_held_drew (S:=CellL [(⟨w.heap.size+1,0,Z⟩,Y xa xm xc),(⟨w.heap.size+1,1,Z⟩,X xs),(⟨w.heap.size+1,2,Z⟩,Y aE aG aF),(⟨b8,10,Z⟩,Y u D y),(⟨b8,11,Z⟩,Y L T Q)]) kM a (fun a=>?_);refine sN 0 ?_
  iterate 3
   refine tkn ?_
  refine oN ?_;refine sN 4 ?_
  iterate 3
   refine tkn ?_
  refine oN ?_;refine cl1 (i:=3) fun K c=>?_
  go_simp
  (with_reducible refine cM (HL.out _ XZ.drew _ (aV.ext' (eR _).drew)) ?_)
  rintro e bA ⟨bG,rfl,aj,l⟩;obtain⟨a1,bm,a7,bw,a4,bp,bj,rfl⟩:=aj.form
  go_wp2_with fail
  refine kO c (cE a l) (fun a=>?_);clear c K;have aH:Ext w bA:=XZ.drew.trans l;refine cl1 (i:=7) fun K c=>?_
  go_simp
  (with_reducible refine cM (HU.out _ aH _ ((aX.ext' (eR _).drew).ext' l)) ?_)
  rintro e bI ⟨bH,rfl,al,m⟩;obtain⟨a2,bn,a9,bx,a5,bq,bk,rfl⟩:=al.form
  go_wp2_with fail
  refine kO c (cE a m) (fun a=>?_);clear c K;have G2:=(H2.ext (eR _).drew).ext (l.trans m);have G3:=(H3.ext (eR _).drew).ext (l.trans m);have ak:=aj.ext m;have aZ:=aH.trans m;clear x0 x1 x2 aM aO aP xz y0 y1 y2 aQ aR aS yz H2 H3 l m aj aH XZ;obtain⟨_,_,_,_,_,_,_,x0,x1,x2,aM,aO,aP,xz,_⟩:=G2.rd;obtain⟨_,_,_,_,_,_,_,y0,y1,y2,aQ,aR,aS,yz,_⟩:=G3.rd
  have aW:∀b,w.heap.size+1<b->b≠b8->∀q∈[((⟨w.heap.size+1,0,Z⟩:Addr),Value.slice xa xm xc),(⟨w.heap.size+1,1,Z⟩,X xs),(⟨w.heap.size+1,2,Z⟩,Y aE aG aF),(⟨b8,10,Z⟩,Y u D y),(⟨b8,11,Z⟩,Y L T Q)],b≠q.1.block:=by
   intro b hb bF q hq;simp at hq
   rcases hq with rfl|rfl|rfl|rfl|rfl<;>(dsimp only;omega)
  refine cl1 (i:=8) fun K c=>?_
  go_simp;refine kO c (CellL.set3 a (aW _ oM oM) _ _ _) (fun a=>?_);clear c K;refine cl1 (i:=9) fun K c=>?_
  go_simp;refine kO c (CellL.set3 a (aW _ oM oM) _ _ _) (fun a=>?_);clear c K;refine tk1 (i:=10) ?_;refine wpAnyH_done kM ?_ _;have P:=hd9 (RB.copy2 G2 G3 oM ak al rfl rfl);go_wp2;refine bR (v:=.tuple #[N #[Y a1 bm a7,X bw,Y a4 bp bj],N #[Y a2 bn a9,X bx,Y a5 bq bk],I J 0]) (by simp[results,Tryz.results26,go_sem,x0,x1,x2,aM,aO,aP,y0,y1,y2,aQ,aR,aS]) rfl ?_;rw[<-HR.out];obtain⟨P1,P2,P3,P4,P5,P6⟩:=P.out;exact⟨_,_,rfl,ak.keep P4,al.keep P4,P6 w aZ oM oM⟩
theorem zkj(w:V)(v a:M)(p:Pl)(x:Rat)(hv:IsPts w v p.shape)(d:IsR w a x)(e:Rb 1000 x)(c:0<=p.skin)(b:Gw w) :
  Calls Tryz.prog 26 #[N (plc p v),a] w (RetSp w (sidP p x)):=by
 cases hok:placedOk p with
 | true=>exact zlI w v a p x hv d e c b hok
 | false =>
  have:=zkk w v a p x hv d c hok
  rwa [show sidP p x=(0,0,2)from if_neg (by rw[hok];decide)]
end
end Go.Proofs.YtjnjpagegkcgfaaGreatDoor.Cop
