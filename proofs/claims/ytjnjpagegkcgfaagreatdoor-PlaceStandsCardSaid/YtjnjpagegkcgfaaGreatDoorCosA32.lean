/- Part 33. -/
import Derived.Test.YtjnjpagegkcgfaaGreatDoorCosA28
set_option maxRecDepth 1000000
set_option maxHeartbeats 16000000
set_option linter.unusedSimpArgs false
set_option linter.unusedVariables false
open Go.Value renaming slice->O,int->Y,bool->V
open Option renaming none->Z,some->I
open Go.IntKind renaming i64->X
namespace Go.Proofs.YtjnjpagegkcgfaaGreatDoor.Cop
section
open Go.RowKit Go.Shelf
attribute [local go_sem] Oper.semAt_some
theorem zkQ(w:World)(vg vs:Value)(ps:List Pl)(a:Nat)(p:Pl)(b L:Int)(l:LP)(hg:∃a n c,vg=O a n c)(hs:IsLas w vs ps)(ha:ps[a]?=I p)(D:b<0\/∃(k:Nat)(q:Pl),b=(k:Int)/\ps[k]?=I q/\meetB p q=true/\(a:Int)≠b)(ah:LnOk (lowP2 p))(hT:LnOk l)(bv:LnUp l)
  (aU:∀W,Ext w W->Calls Tryz.prog 76 #[.agg #[vg,vs],Y X b] W fun e w'=>∃v,e = .returned v/\IsPts w' v l/\Ext W w')(hp:Bd 104000 L)(a3:(btw (lowP2 p) l).lo<(btw (lowP2 p) l).hi)(d:Rat×Rat)(a5:reachP (btw (lowP2 p) l) L=I d) :
  Calls Tryz.prog 72 #[.agg #[vg,vs],Y X a,Y X b,Y X L] w (RetBe w (bedO p l b L)):=by
 have cn:(a:Int)≠b:=by
  rcases D with h|⟨k,q,_,_,_,h⟩
  ·omega
  ·exact h
 obtain⟨ga,gn,gc,rfl⟩:=hg;obtain⟨sa,n,sc,rfl⟩:=form3 hs;have hl:=hs.len;have cm:=hs.le;obtain⟨z,o,s,vl,vu,rfl,cV,d1,d2,d3,hc⟩:=hs.at' ha;have bh:=hd9 (fun(W:World)(hW:Ext w W)(vt:Value)(h:IsPts W vt l)=>zbb W vl vt (lowP2 p) l (d2.ext' hW) h (List.length_pos_iff.2 ah.1) (List.length_pos_iff.2 hT.1));have ao:=hd9 (fun(W:World)(hW:Ext w W)(vt:Value)(h:IsPts W vt l)=>zdZ W vl vt (btw (lowP2 p) l) L (d2.ext' hW) h (zcf ah hT) hp);have aS:=hd9 (fun(W:World)(hW:Ext w W)(vx:Value)(x:Rat)(hx:IsR W vx x)(hb:Rb 1000 x)(bl:Nat)(ce:W.heap[bl]?=I (.cells (lac p s vl vu) 128 (0,0)))=>zcJ W vx x p bl s vl vu hx hb ce (d2.ext' hW) ah);have bk:=hd9 (fun(W:World)(vt vx vr:Value)(x rt:Rat)(h:IsPts W vt l)(hx:IsR W vx x)(hb:Rb 1000 x)(hr:IsR W vr rt)(cf:Rb 1000 rt)=>zeb W vt vx vr l x rt h hT bv hx hb hr cf);have bX:=hd9 aU;obtain⟨R,hR⟩:=gX (RetBe w (bedO p l b L));rw[hR];have HR:=hd9 hR;unfold bedO at HR;obtain⟨sp,aK⟩:=gX (btw (lowP2 p) l);rw[aK]at bh ao HR;have ai:SpOk sp:=aK▸zcf ah hT
 have bu:∀o,reachP sp L=I o->Rb 300 o.1/\Rb 300 o.2:=fun o ho=>by
  unfold reachP at ho
  split at ho
  ·cases ho
  ·cases ho
   have h1:Rb 300 (leastR sp).1:=(zas ai _ (by unfold leastR;exact(zaM (gapR sp) (zbs sp)).1)).up dM;exact Rb.reach_n (o:=((leastR sp).1,(leastR sp).1)) ⟨h1,h1⟩ (zas ai) (fun q hq=>Rb.pin_g (zas ai q hq) ai hp) _ (nE _)
 have bY:=hd9 bu;unfold spc at ao;obtain⟨aO,aQ,aP,rfl⟩:=form3 d1;obtain⟨a7,a9,a8,rfl⟩:=form3 d2;obtain⟨bT,bV,bU,rfl⟩:=form3 d3;have hi:=(lS.1 ha).1;have p1:(0:Int)<=(a:Int):=oM
 have p2:(a:Int)<(n:Int):=oM
 have p3:a<n:=oM
 have bn:=hc 0 (.string p.name) rfl;have bZ:=hc 1 (O aO aQ aP) rfl;have b2:=hc 2 (Y X p.depth) rfl;have b3:=hc 3 (Y X p.density) rfl;have b4:=hc 4 (Y X p.gx) rfl;have b5:=hc 5 (Y X p.gz) rfl;have b6:=hc 6 (Y X p.way) rfl;have b7:=hc 7 (Y X p.ax) rfl;have b8:=hc 8 (Y X p.az) rfl;have b9:=hc 9 (Y .u8 p.skin) rfl;have bo:=hc 10 (O a7 a9 a8) rfl;have bp:=hc 11 (O bT bV bU) rfl;simp only[Nat.add_zero]at bn;have cZ:((a:Int)==b)=false:=by simpa using cn
 rw[aK]at a3 a5
 have ad:=hd9 (show b<0\/∃(k:Nat)(q:Pl)(v2:Value),b=(k:Int)/\k<n/\meetB p q=true/\(∃a n c,v2=O a n c)/\∀(m:Nat) u,(plc q v2)[m]?=I u->w.cell? ⟨z,o+k*12+m,Z⟩=I u from by
  rcases D with h|⟨k,q,h1,hq,h3,h4⟩
  ·exact .inl h
  ·obtain⟨b1,o1,s',dc,dd,e9,cW,ca,cT,cU,g⟩:=hs.at' hq
   cases e9
   have cX:=(lS.1 hq).1;exact .inr ⟨k,q,s',h1,by omega,h3,form3 ca,fun m u hu=>g m u (zgw hu)⟩)
 have cR:z<w.heap.size+1:=oM
 have cS:z<w.heap.size+1+1:=oM
 clear D hs ha hc d1 d2 d3 hl cm hi aU hR bu aK ai hT bv ah hp;go_enter Tryz.func72,Tryz.ntmps72
 go_upto_region 2 with fail
 go_cut [40] (BdH w (O ga gn gc) (O (I ⟨z,o,Z⟩) n sc) (lac p (O aO aQ aP) (O a7 a9 a8) (O bT bV bU)))
 case first =>
  rcases ad.out with hb|⟨k,q,v2,cd,r4,bt,⟨ba,bc,bb,rfl⟩,g⟩
  ·have cc:¬0<=b:=oM
   have cb:decide ((0:Int)<=b)=false:=by simp;omega
   refine wp_region_held_drew (S:=CellL []) kM trivial (fun f=>?_);refine sN 0 ?_
   iterate 7
    refine tkn ?_
   iterate 10
    refine tkgn ?_
   iterate 2
    refine tkn ?_
   refine oN ?_;refine wpAnyH_done kM ?_ _;go_wp2;go_meet;exact⟨rfl,((((eR w).alloc _).alloc _).alloc _).drew,((((eR _).alloc _).alloc _).drew).heapS (aN w _),(((eR _).alloc _).drew).heapS (qhA _ _ _ sM),((eR _).drew).heapS (qhA _ _ _ sM)⟩
  ·subst cd
   have cc:(0:Int)<=(k:Int):=oM
   have cb:decide ((0:Int)<=(k:Int))=true:=sM
   have r2:(k:Int)<(n:Int):=oM
   have cy:=g 0 (.string q.name) rfl;have c1:=g 1 (O ba bc bb) rfl;have c2:=g 2 (Y X q.depth) rfl;have c3:=g 3 (Y X q.density) rfl;have c4:=g 4 (Y X q.gx) rfl;have c5:=g 5 (Y X q.gz) rfl;have c6:=g 6 (Y X q.way) rfl;have c7:=g 7 (Y X q.ax) rfl;have c8:=g 8 (Y X q.az) rfl;have c9:=g 9 (Y .u8 q.skin) rfl;simp only[Nat.add_zero]at cy;have a1:=hd9 (fun(W:World)=>zbY W p q (O aO aQ aP) (O ba bc bb) ⟨_,_,_,rfl⟩ ⟨_,_,_,rfl⟩);rw[bt]at a1;unfold plc at a1;clear g bt;refine wp_region_held_drew (S:=CellL [(⟨w.heap.size+1+1,0,Z⟩,.string p.name),(⟨w.heap.size+1+1,1,Z⟩,O aO aQ aP),(⟨w.heap.size+1+1,2,Z⟩,Y X p.depth),(⟨w.heap.size+1+1,3,Z⟩,Y X p.density),(⟨w.heap.size+1+1,4,Z⟩,Y X p.gx),(⟨w.heap.size+1+1,5,Z⟩,Y X p.gz),(⟨w.heap.size+1+1,6,Z⟩,Y X p.way),(⟨w.heap.size+1+1,7,Z⟩,Y X p.ax),(⟨w.heap.size+1+1,8,Z⟩,Y X p.az),(⟨w.heap.size+1+1,9,Z⟩,Y .u8 p.skin),(⟨w.heap.size,1,Z⟩,O (I ⟨z,o,Z⟩) n sc),(⟨z,o+k*12,Z⟩,.string q.name),(⟨z,o+k*12+1,Z⟩,O ba bc bb),(⟨z,o+k*12+2,Z⟩,Y X q.depth),(⟨z,o+k*12+3,Z⟩,Y X q.density),(⟨z,o+k*12+4,Z⟩,Y X q.gx),(⟨z,o+k*12+5,Z⟩,Y X q.gz),(⟨z,o+k*12+6,Z⟩,Y X q.way),(⟨z,o+k*12+7,Z⟩,Y X q.ax),(⟨z,o+k*12+8,Z⟩,Y X q.az),(⟨z,o+k*12+9,Z⟩,Y .u8 q.skin)]) kM cA (fun f=>?_);refine sN 0 ?_
   iterate 15
    refine tkn ?_
   refine oN ?_;refine cl1 (i:=15) fun K y=>?_
   go_simp
   (with_reducible refine cM (a1.out _) ?_)
   rintro e w3 ⟨rfl,al⟩
   skip
   go_wp2_with fail
   refine kO y (cE f al) (fun f=>?_);clear y K;refine sN 16 ?_
   iterate 3
    refine tkn ?_
   refine oN ?_;refine wpAnyH_done kM ?_ _;go_wp2;go_meet;exact⟨rfl,((((eR w).alloc _).alloc _).alloc _).drew.trans al,al.heapS (((((eR _).alloc _).alloc _).drew).heapS (aN w _)),al.heapS ((((eR _).alloc _).drew).heapS (qhA _ _ _ sM)),al.heapS (((eR _).drew).heapS (qhA _ _ _ sM))⟩
 case rest =>
  obtain⟨rfl,X3,K4,t,aq⟩:=hcut;obtain⟨W3,rfl⟩:∃W,W=wc:=⟨_,rfl⟩;have z3:w.heap.size+1+1<W3.heap.size:=zaa aq;have de:w.heap.size<W3.heap.size:=oM
  have dg:w.heap.size+1<W3.heap.size:=oM
  clear ad bn bZ b2 b3 b4 b5 b6 b7 b8 b9 bo bp;have s0:=qcB K4 (i:=0) (u:=O ga gn gc) rfl;have s1:=qcB K4 (i:=1) (u:=O (I ⟨z,o,Z⟩) n sc) rfl;have c0:=qcB aq (i:=10) (u:=O a7 a9 a8) rfl;have k0:=qcB t (i:=0) (u:=Y X 0) rfl;have k1:=qcB t (i:=1) (u:=O Z 0 0) rfl;have k2:=qcB t (i:=2) (u:=V false) rfl;have k3:=qcB t (i:=3) (u:=O Z 0 0) rfl;have k4:=qcB t (i:=4) (u:=O Z 0 0) rfl;have k5:=qcB t (i:=5) (u:=V false) rfl;have k6:=qcB t (i:=6) (u:=O Z 0 0) rfl;have k7:=qcB t (i:=7) (u:=O Z 0 0) rfl;have k8:=qcB t (i:=8) (u:=V false) rfl;have k9:=qcB t (i:=9) (u:=O Z 0 0) rfl;have cq:=qcB t (i:=10) (u:=O Z 0 0) rfl;have cr:=qcB t (i:=11) (u:=V false) rfl;have ct:=qcB t (i:=12) (u:=O Z 0 0) rfl;have cu:=qcB t (i:=13) (u:=Y X 0) rfl;have cv:=qcB t (i:=14) (u:=Y X 0) rfl;have cw:=qcB t (i:=15) (u:=Y X 0) rfl;have cx:=qcB t (i:=16) (u:=Y X 0) rfl;have kf:=qfB t;have bW:=hd9 t;have bi:=hd9 aq;have ap:=hd9 X3;clear K4 t aq X3;have hd:decide (sp.lo<sp.hi)=true:=by simp[a3]
  rw[if_pos a3]at HR;rw[a5]at ao HR;have aa:=hd9 (bY.out d a5);have cY:∀(fn:Fn)(first cap:Array Value)(w:World),(Instr.makeFunc fn first cap).run Tryz.prog w = .ok (.func fn first cap) w:=fun _ _ _ _=>rfl
  go_wp2_with(first|(go_at_call 76;(with_reducible refine(bX.out _ ap.out).mono ?_);rintro e w4 ⟨vt,rfl,aL,am⟩;obtain⟨ta,tn,tc,rfl⟩:=form3 aL;obtain⟨cg,cj⟩:=am.cells;(have z4:=am.size);(try simp only[wZ,qdZ]at z4);(have dh:w.heap.size<w4.heap.size:=oM);(have dk:w.heap.size+1<w4.heap.size:=oM);(have dn:w.heap.size+1+1<w4.heap.size:=oM);(have dr:w.heap.size<w4.heap.size+1:=oM);(have du:w.heap.size+1<w4.heap.size+1:=oM);(have dy:w.heap.size+1+1<w4.heap.size+1:=oM))|(go_at_call 58;(with_reducible refine(bh.out _ (ap.out.trans am) _ aL).mono ?_);rintro e w5 ⟨rfl,ab⟩;unfold spc;(try rw[hd]);obtain⟨ch,ck⟩:=ab.cells;(have z5:=ab.size);(try simp only[wZ,qdZ]at z5);(have di:w.heap.size<w5.heap.size:=oM);(have dl:w.heap.size+1<w5.heap.size:=oM);(have dp:w.heap.size+1+1<w5.heap.size:=oM);(have ds:w.heap.size<w5.heap.size+1:=oM);(have dw:w.heap.size+1<w5.heap.size+1:=oM);(have dz:w.heap.size+1+1<w5.heap.size+1:=oM))|(go_at_call 143;(with_reducible refine(ao.out _ (((ap.out.trans am).trans ab).alloc _) _ ((aL.ext' ab).ext' ((eR _).alloc _))).mono ?_);rintro e T ⟨aM,r1,r2,aj,ak,rfl⟩;obtain⟨bK,bO,bM,bQ,bL,bP,bN,rfl⟩:=aj.form;obtain⟨bD,bH,bF,bJ,bE,bI,bG,rfl⟩:=ak.form;obtain⟨ci,cl⟩:=aM.cells;(have z6:=aM.size);(try simp only[wZ,qdZ]at z6);(have dj:w.heap.size<T.heap.size:=oM);(have dm:w.heap.size+1<T.heap.size:=oM);(have dq:w.heap.size+1+1<T.heap.size:=oM);(have dt:w.heap.size<T.heap.size+1:=oM);(have dx:w.heap.size+1<T.heap.size+1:=oM);(have dB:w.heap.size+1+1<T.heap.size+1:=oM)))
  have aj:IsR T (.agg #[O bK bO bM,V bQ,O bL bP bN]) d.1:=aj;have ak:IsR T (.agg #[O bD bH bF,V bJ,O bE bI bG]) d.2:=ak;obtain⟨W7,ae⟩:=gX (((T.alloc (.cells #[O bK bO bM,V bQ,O bL bP bN] 63)).alloc (.cells #[O bD bH bF,V bJ,O bE bI bG] 63)));have a0:Ext T W7:=by rw[<-ae];exact((eR _).alloc _).alloc _
  have aZ:Ext W3 W7:=((am.trans ab).trans (((eR _).alloc _).trans aM)).trans a0;have be:RB W7 T.heap.size d.1:=by rw[<-ae];exact(RB.new aj rfl).ext ((eR _).alloc _)
  have bf:RB W7 (T.heap.size+1) d.2:=by rw[<-ae];exact RB.new (ak.ext ((eR _).alloc _)) sM
  have ac:=hd9 (aZ.heapS bi.out);have bj:=hd9 (aZ.heapS bW.out);have bm:=hd9 ((((aL.ext' ab).ext' ((eR _).alloc _)).ext' aM).ext' a0);have cQ:w.heap.size+1<T.heap.size:=oM
  have a2:=hd9 (ap.out.trans aZ);rw[ae];obtain⟨j,af⟩:=gX T.heap.size;rw[af]at be bf cQ;simp only[af];clear ae k0 k1 k2 k3 k4 k5 k6 k7 k8 k9 cq cr ct cu cv cw cx kf cg cj ch ck ci cl af a0 aj ak;obtain⟨pa,pm,bz,bC,bx,bB,bA,x0,x1,x2,cJ,cK,cL,xz,a4⟩:=be.rd;obtain⟨ea,em,ec,es,bq,bs,br,y0,y1,y2,cN,cO,cP,yz,ag⟩:=bf.rd
  have aT:∀q∈[((⟨j,0,Z⟩:Addr),Value.slice pa pm bz),(⟨j,1,Z⟩,V bC),(⟨j,2,Z⟩,O bx bB bA),(⟨j+1,0,Z⟩,O ea em ec),(⟨j+1,1,Z⟩,V es),(⟨j+1,2,Z⟩,O bq bs br)],w.heap.size+1≠q.1.block:=by
   intro q hq;simp at hq
   rcases hq with rfl|rfl|rfl|rfl|rfl|rfl<;>(dsimp only;omega)
  go_wp2;refine wp_region_held_drew (S:=CellL [(⟨j,0,Z⟩,O pa pm bz),(⟨j,1,Z⟩,V bC),(⟨j,2,Z⟩,O bx bB bA),(⟨j+1,0,Z⟩,O ea em ec),(⟨j+1,1,Z⟩,V es),(⟨j+1,2,Z⟩,O bq bs br)]) kM cA (fun f=>?_);refine sN 0 ?_
  iterate 3
   refine tkn ?_
  refine oN ?_;refine sN 4 ?_
  iterate 2
   refine tkn ?_
  refine oN ?_;refine sN 7 ?_
  iterate 3
   refine tkn ?_
  refine oN ?_;refine sN 11 ?_
  iterate 3
   refine tkn ?_
  refine oN ?_;have D0:Ext W7 W7.drew:=(eR _).drew;refine cl1 (i:=3) fun K y=>?_
  go_simp
  (with_reducible refine cM (aS.out _ (a2.out.trans D0) _ d.1 (a4.ext D0) (aa.out.1.mono oM) _ (D0.heapS ac.out)) ?_)
  rintro e w8 ⟨da,rfl,co,bw⟩;obtain⟨fa,fm,fc,fs,ar,ay,av,fb,fn,fk,ft,au,aA,aw,rfl,aV,aW⟩:=co
  go_wp2_with fail
  refine kO y (cE f bw) (fun f=>?_);clear y K;have D8:Ext W7 w8:=D0.trans bw;refine cl1 (i:=6) fun K y=>?_
  go_simp
  (with_reducible refine cM (aS.out _ (a2.out.trans D8) _ d.2 (ag.ext D8) (aa.out.2.mono oM) _ (D8.heapS ac.out)) ?_)
  rintro e w9 ⟨db,rfl,cp,a6⟩;obtain⟨aB,gm,aE,gs,aC,aH,aF,gb,aI,gk,gt,aD,aJ,aG,rfl,aX,aY⟩:=cp
  go_wp2_with fail
  refine kO y (cE f a6) (fun f=>?_);clear y K;have D9:Ext W7 w9:=D8.trans a6;refine cl1 (i:=10) fun K y=>?_
  go_simp
  (with_reducible refine cM (bk.out _ _ _ _ d.1 d.2 (bm.out.ext' D9) (a4.ext D9) (aa.out.1.mono oM) (ag.ext D9) (aa.out.2.mono oM)) ?_)
  rintro e cI ⟨rfl,P⟩
  skip
  go_wp2_with fail
  refine kO y (cE f P) (fun f=>?_);clear y K;have an:Ext W7 cI:=D9.trans P;refine cl1 (i:=14) fun K y=>?_
  go_simp
  (with_reducible refine cM (bk.out _ _ _ _ d.2 d.2 (bm.out.ext' an) (ag.ext an) (aa.out.2.mono oM) (ag.ext an) (aa.out.2.mono oM)) ?_)
  rintro e aR ⟨rfl,Q⟩
  skip
  go_wp2_with fail
  refine kO y (cE f Q) (fun f=>?_);clear y K;have bg:Ext W7 aR:=an.trans Q;refine tk1 (i:=15) ?_;have r:=bg.heapS bj.out;have u0:=qcB r (i:=0) (u:=Y X 0) rfl;have u1:=qcB r (i:=1) (u:=O Z 0 0) rfl;have u2:=qcB r (i:=2) (u:=V false) rfl;have u3:=qcB r (i:=3) (u:=O Z 0 0) rfl;have u4:=qcB r (i:=4) (u:=O Z 0 0) rfl;have u5:=qcB r (i:=5) (u:=V false) rfl;have u6:=qcB r (i:=6) (u:=O Z 0 0) rfl;have u7:=qcB r (i:=7) (u:=O Z 0 0) rfl;have u8:=qcB r (i:=8) (u:=V false) rfl;have u9:=qcB r (i:=9) (u:=O Z 0 0) rfl;have cz:=qcB r (i:=10) (u:=O Z 0 0) rfl;have cB:=qcB r (i:=11) (u:=V false) rfl;have cC:=qcB r (i:=12) (u:=O Z 0 0) rfl;have cD:=qcB r (i:=13) (u:=Y X 0) rfl;have cF:=qcB r (i:=14) (u:=Y X 0) rfl;have cG:=qcB r (i:=15) (u:=Y X 0) rfl;have cH:=qcB r (i:=16) (u:=Y X 0) rfl;have uf:=qfB r;have zk:=zaa r;have HZ:=hd9 r;have Hf:=hd9 (show IsV aR (.agg #[O fa fm fc,V fs,O ar ay av,O fb fn fk,V ft,O au aA aw]) d.1 (atR (lowP2 p) d.1)from((IsV.ext ⟨_,_,_,_,_,_,_,_,_,_,_,_,_,_,rfl,aV,aW⟩ a6).ext P).ext Q);have Hg:=hd9 (show IsV aR (.agg #[O aB gm aE,V gs,O aC aH aF,O gb aI gk,V gt,O aD aJ aG]) d.2 (atR (lowP2 p) d.2)from(IsV.ext ⟨_,_,_,_,_,_,_,_,_,_,_,_,_,_,rfl,aX,aY⟩ P).ext Q);clear r aV aW aX aY x0 x1 x2 cJ cK cL y0 y1 y2 cN cO cP a4 ag;refine cl1 (i:=16) fun K y=>?_
  go_simp;refine kO y (CellL.set17 f aT _ _ _ _ _ _ _ _ _ _ _ _ _ _ _ _ _) (fun f=>?_);clear y K;refine tk1 (i:=17) ?_;refine wpAnyH_done kM ?_ _;clear f aT;go_wp2;have n0:NoT 2 aR (w.heap.size+1):=by intro cs fr e;rw[HZ.out]at e;cases e
  have EZ:=hd9 (a2.out.trans bg);refine bR (v:=.tuple #[.agg #[Y X b,O fa fm fc,V fs,O ar ay av,O fb fn fk,V ft,O au aA aw,O aB gm aE,V gs,O aC aH aF,O gb aI gk,V gt,O aD aJ aG,Y X (slopeR l d.1 d.2).1,Y X (slopeR l d.1 d.2).2,Y X (slopeR l d.2 d.2).1,Y X (slopeR l d.2 d.2).2],V true]) (by simp[results,Tryz.results72,go_sem,zk,uf,u0,u1,u2,u3,u4,u5,u6,u7,u8,u9,cz,cB,cC,cD,cF,cG,cH]) rfl ?_;rw[<-HR.out];refine⟨zdU EZ.out (Nat.le_succ _) _ _ _ _ _ _ _ _ _ _ _ _ _ _ _ _ _,.inr ⟨_,[Y X b,O fa fm fc,V fs,O ar ay av,O fb fn fk,V ft,O au aA aw,O aB gm aE,V gs,O aC aH aF,O gb aI gk,V gt,O aD aJ aG,Y X (slopeR l d.1 d.2).1,Y X (slopeR l d.1 d.2).2,Y X (slopeR l d.2 d.2).1,Y X (slopeR l d.2 d.2).2],rfl,rfl,[O fa fm fc,V fs,O ar ay av,O fb fn fk,V ft,O au aA aw],[O aB gm aE,V gs,O aC aH aF,O gb aI gk,V gt,O aD aJ aG],rfl,Hf.out.keep (zeB n0 _ _ _ _ _ _ _ _ _ _ _ _ _ _ _ _ _),Hg.out.keep (zeB n0 _ _ _ _ _ _ _ _ _ _ _ _ _ _ _ _ _)⟩⟩
end
end Go.Proofs.YtjnjpagegkcgfaaGreatDoor.Cop
