/- Part 38: contracts of what the law calls. -/
import Derived.Test.YtjnjpagegkcgfaaGreatDoorCopA33
set_option maxRecDepth 1000000
set_option maxHeartbeats 16000000
set_option linter.unusedSimpArgs false
set_option linter.unusedVariables false
open Go.Value renaming slice→O,int→Y,bool→V
open Option renaming none→Z,some→I
open Go.IntKind renaming i64→X
namespace Go.Proofs.YtjnjpagegkcgfaaGreatDoor.Cop
section
open Go.RowKit Go.Shelf
attribute [local go_sem] Oper.semAt_some
theorem zk6 (w:World) (vg vs:Value) (ps:List Pl) (a:Nat) (p:Pl) (b L:Int) (l:List (Int×Int)) (hg:∃a n c,vg=O a n c) (hs:IsLas w vs ps) (ha:ps[a]?=I p) (D:b<0∨∃(k:Nat) (q:Pl),b=(k:Int)∧ps[k]?=I q∧meetB p q=true∧(a:Int)≠b) (ah:LnOk (lowP2 p)) (hT:LnOk l) (bu:LnUp l)
  (aT:∀W,Ext w W→Calls Tryz.prog 76 #[.agg #[vg,vs],Y X b] W fun e w'=>∃v,e = .returned v∧IsPts w' v l∧Ext W w') (hp:Bd 104000 L) (a2:(btw (lowP2 p) l).lo<(btw (lowP2 p) l).hi) (d:Rat×Rat) (a4:reachP (btw (lowP2 p) l) L=I d) :
  Calls Tryz.prog 72 #[.agg #[vg,vs],Y X a,Y X b,Y X L] w (RetBe w (bedO p l b L)):=by
 have cm:(a:Int)≠b:=by
  rcases D with h|⟨k,q,_,_,_,h⟩
  ·omega
  ·exact h
 obtain⟨ga,gn,gc,rfl⟩:=hg;obtain⟨sa,n,sc,rfl⟩:=form3 hs;have hl:=hs.len;have cl:=hs.le;obtain⟨z,o,s,vl,vu,rfl,cU,d1,d2,d3,hc⟩:=hs.at' ha;have bg:=hd9 (fun(W:World) (hW:Ext w W) (vt:Value) (h:IsPts W vt l)=>zbf W vl vt (lowP2 p) l (d2.ext' hW) h (List.length_pos_iff.2 ah.1) (List.length_pos_iff.2 hT.1));have ao:=hd9 (fun(W:World) (hW:Ext w W) (vt:Value) (h:IsPts W vt l)=>zee W vl vt (btw (lowP2 p) l) L (d2.ext' hW) h (zbw ah hT) hp);have aR:=hd9 (fun(W:World) (hW:Ext w W) (vx:Value) (x:Rat) (hx:IsR W vx x) (hb:Rb 1000 x) (bl:Nat) (cd:W.heap[bl]?=I (.cells (lac p s vl vu) 128 (0,0)))=>zc7 W vx x p bl s vl vu hx hb cd (d2.ext' hW) ah);have bj:=hd9 (fun(W:World) (vt vx vr:Value) (x rt:Rat) (h:IsPts W vt l) (hx:IsR W vx x) (hb:Rb 1000 x) (hr:IsR W vr rt) (ce:Rb 1000 rt)=>zek W vt vx vr l x rt h hT bu hx hb hr ce);have bW:=hd9 aT;obtain⟨R,hR⟩:=gX (RetBe w (bedO p l b L));rw [hR];have HR:=hd9 hR;unfold bedO at HR;obtain⟨sp,aJ⟩:=gX (btw (lowP2 p) l);rw [aJ]at bg ao HR;have ai:SpOk sp:=aJ▸zbw ah hT
 have bt:∀o,reachP sp L=I o→Rb 300 o.1∧Rb 300 o.2:=fun o ho=>by
  unfold reachP at ho
  split at ho
  ·cases ho
  ·cases ho
   have h1:Rb 300 (leastR sp).1:=(zap ai _ (by unfold leastR;exact(zaJ (gapR sp) (zbc sp)).1)).up dM;exact Rb.reach_n (o:=((leastR sp).1,(leastR sp).1)) ⟨h1,h1⟩ (zap ai) (fun q hq=>Rb.pin_g (zap ai q hq) ai hp) _ (nE _)
 have bX:=hd9 bt;unfold spc at ao;obtain⟨aM,aP,aO,rfl⟩:=form3 d1;obtain⟨a6,a8,a7,rfl⟩:=form3 d2;obtain⟨bQ,bU,bT,rfl⟩:=form3 d3;have hi:=(lS.1 ha).1;have p1:(0:Int)≤(a:Int):=oM
 have p2:(a:Int)<(n:Int):=oM
 have p3:a<n:=oM
 have bm:=hc 0 (.string p.name) rfl;have bY:=hc 1 (O aM aP aO) rfl;have bZ:=hc 2 (Y X p.depth) rfl;have b2:=hc 3 (Y X p.density) rfl;have b3:=hc 4 (Y X p.gx) rfl;have b4:=hc 5 (Y X p.gz) rfl;have b5:=hc 6 (Y X p.way) rfl;have b6:=hc 7 (Y X p.ax) rfl;have b7:=hc 8 (Y X p.az) rfl;have b8:=hc 9 (Y .u8 p.skin) rfl;have bn:=hc 10 (O a6 a8 a7) rfl;have bo:=hc 11 (O bQ bU bT) rfl;simp only [Nat.add_zero]at bm;have cY:((a:Int)==b)=false:=by simpa using cm
 rw [aJ]at a2 a4
 have ad:=hd9 (show b<0∨∃(k:Nat) (q:Pl) (v2:Value),b=(k:Int)∧k<n∧meetB p q=true∧(∃a n c,v2=O a n c)∧∀(m:Nat) u,(plc q v2)[m]?=I u→w.cell? ⟨z,o+k*12+m,Z⟩=I u from by
  rcases D with h|⟨k,q,h1,hq,h3,h4⟩
  ·exact .inl h
  ·obtain⟨b1,o1,s',db,dc,e9,cV,b9,cS,cT,g⟩:=hs.at' hq
   cases e9
   have cW:=(lS.1 hq).1;exact .inr ⟨k,q,s',h1,by omega,h3,form3 b9,fun m u hu=>g m u (zgK hu)⟩)
 have cQ:z<w.heap.size+1:=oM
 have cR:z<w.heap.size+1+1:=oM
 clear D hs ha hc d1 d2 d3 hl cl hi aT hR bt aJ ai hT bu ah hp;go_enter Tryz.func72,Tryz.ntmps72
 go_upto_region 2 with fail
 go_cut [40] (BdH w (O ga gn gc) (O (I ⟨z,o,Z⟩) n sc) (lac p (O aM aP aO) (O a6 a8 a7) (O bQ bU bT)))
 case first =>
  rcases ad.out with hb|⟨k,q,v2,cc,r4,bs,⟨a9,bb,ba,rfl⟩,g⟩
  ·have cb:¬0≤b:=oM
   have ca:decide ((0:Int)≤b)=false:=by simp;omega
   refine wp_region_held_drew (S:=CellL []) kM trivial (fun f=>?_);refine sN 0 ?_
   iterate 7
    refine tkn ?_
   iterate 10
    refine tkgn ?_
   iterate 2
    refine tkn ?_
   refine oN ?_;refine wpAnyH_done kM ?_ _;go_wp2;go_meet;exact⟨rfl,((((eR w).alloc _).alloc _).alloc _).drew,((((eR _).alloc _).alloc _).drew).heapS (aN w _),(((eR _).alloc _).drew).heapS (qhA _ _ _ sM),((eR _).drew).heapS (qhA _ _ _ sM)⟩
  ·subst cc
   have cb:(0:Int)≤(k:Int):=oM
   have ca:decide ((0:Int)≤(k:Int))=true:=sM
   have r2:(k:Int)<(n:Int):=oM
   have cx:=g 0 (.string q.name) rfl;have c0:=g 1 (O a9 bb ba) rfl;have c1:=g 2 (Y X q.depth) rfl;have c2:=g 3 (Y X q.density) rfl;have c3:=g 4 (Y X q.gx) rfl;have c4:=g 5 (Y X q.gz) rfl;have c5:=g 6 (Y X q.way) rfl;have c6:=g 7 (Y X q.ax) rfl;have c7:=g 8 (Y X q.az) rfl;have c8:=g 9 (Y .u8 q.skin) rfl;simp only [Nat.add_zero]at cx;have a0:=hd9 (fun(W:World)=>zce W p q (O aM aP aO) (O a9 bb ba) ⟨_,_,_,rfl⟩ ⟨_,_,_,rfl⟩);rw [bs]at a0;unfold plc at a0;clear g bs;refine wp_region_held_drew (S:=CellL [(⟨w.heap.size+1+1,0,Z⟩,.string p.name),(⟨w.heap.size+1+1,1,Z⟩,O aM aP aO),(⟨w.heap.size+1+1,2,Z⟩,Y X p.depth),(⟨w.heap.size+1+1,3,Z⟩,Y X p.density),(⟨w.heap.size+1+1,4,Z⟩,Y X p.gx),(⟨w.heap.size+1+1,5,Z⟩,Y X p.gz),(⟨w.heap.size+1+1,6,Z⟩,Y X p.way),(⟨w.heap.size+1+1,7,Z⟩,Y X p.ax),(⟨w.heap.size+1+1,8,Z⟩,Y X p.az),(⟨w.heap.size+1+1,9,Z⟩,Y .u8 p.skin),(⟨w.heap.size,1,Z⟩,O (I ⟨z,o,Z⟩) n sc),(⟨z,o+k*12,Z⟩,.string q.name),(⟨z,o+k*12+1,Z⟩,O a9 bb ba),(⟨z,o+k*12+2,Z⟩,Y X q.depth),(⟨z,o+k*12+3,Z⟩,Y X q.density),(⟨z,o+k*12+4,Z⟩,Y X q.gx),(⟨z,o+k*12+5,Z⟩,Y X q.gz),(⟨z,o+k*12+6,Z⟩,Y X q.way),(⟨z,o+k*12+7,Z⟩,Y X q.ax),(⟨z,o+k*12+8,Z⟩,Y X q.az),(⟨z,o+k*12+9,Z⟩,Y .u8 q.skin)]) kM cA (fun f=>?_);refine sN 0 ?_
   iterate 15
    refine tkn ?_
   refine oN ?_;refine cl1 (i:=15) fun K y=>?_
   go_simp
   (with_reducible refine cM (a0.out _) ?_)
   rintro e w3 ⟨rfl,al⟩
   skip
   go_wp2_with fail
   refine kO y (cE f al) (fun f=>?_);clear y K;refine sN 16 ?_
   iterate 3
    refine tkn ?_
   refine oN ?_;refine wpAnyH_done kM ?_ _;go_wp2;go_meet;exact⟨rfl,((((eR w).alloc _).alloc _).alloc _).drew.trans al,al.heapS (((((eR _).alloc _).alloc _).drew).heapS (aN w _)),al.heapS ((((eR _).alloc _).drew).heapS (qhA _ _ _ sM)),al.heapS (((eR _).drew).heapS (qhA _ _ _ sM))⟩
 case rest =>
  obtain⟨rfl,X3,K4,t,aq⟩:=hcut;obtain⟨W3,rfl⟩:∃W,W=wc:=⟨_,rfl⟩;have z3:w.heap.size+1+1<W3.heap.size:=zaa aq;have dd:w.heap.size<W3.heap.size:=oM
  have de:w.heap.size+1<W3.heap.size:=oM
  clear ad bm bY bZ b2 b3 b4 b5 b6 b7 b8 bn bo;have s0:=qcB K4 (i:=0) (u:=O ga gn gc) rfl;have s1:=qcB K4 (i:=1) (u:=O (I ⟨z,o,Z⟩) n sc) rfl;have cZ:=qcB aq (i:=10) (u:=O a6 a8 a7) rfl;have k0:=qcB t (i:=0) (u:=Y X 0) rfl;have k1:=qcB t (i:=1) (u:=O Z 0 0) rfl;have k2:=qcB t (i:=2) (u:=V false) rfl;have k3:=qcB t (i:=3) (u:=O Z 0 0) rfl;have k4:=qcB t (i:=4) (u:=O Z 0 0) rfl;have k5:=qcB t (i:=5) (u:=V false) rfl;have k6:=qcB t (i:=6) (u:=O Z 0 0) rfl;have k7:=qcB t (i:=7) (u:=O Z 0 0) rfl;have k8:=qcB t (i:=8) (u:=V false) rfl;have k9:=qcB t (i:=9) (u:=O Z 0 0) rfl;have cp:=qcB t (i:=10) (u:=O Z 0 0) rfl;have cq:=qcB t (i:=11) (u:=V false) rfl;have cr:=qcB t (i:=12) (u:=O Z 0 0) rfl;have ct:=qcB t (i:=13) (u:=Y X 0) rfl;have cu:=qcB t (i:=14) (u:=Y X 0) rfl;have cv:=qcB t (i:=15) (u:=Y X 0) rfl;have cw:=qcB t (i:=16) (u:=Y X 0) rfl;have kf:=qfB t;have bV:=hd9 t;have bh:=hd9 aq;have ap:=hd9 X3;clear K4 t aq X3;have hd:decide (sp.lo<sp.hi)=true:=by simp [a2]
  rw [if_pos a2]at HR;rw [a4]at ao HR;have aa:=hd9 (bX.out d a4);have cX:∀(fn:Fn) (first cap:Array Value) (w:World),(Instr.makeFunc fn first cap).run Tryz.prog w = .ok (.func fn first cap) w:=fun _ _ _ _=>rfl
  go_wp2_with(first|(go_at_call 76;(with_reducible refine(bW.out _ ap.out).mono ?_);rintro e w4 ⟨vt,rfl,aK,am⟩;obtain⟨ta,tn,tc,rfl⟩:=form3 aK;obtain⟨cf,ci⟩:=am.cells;(have z4:=am.size);(try simp only [wZ,qdZ]at z4);(have dg:w.heap.size<w4.heap.size:=oM);(have dj:w.heap.size+1<w4.heap.size:=oM);(have dm:w.heap.size+1+1<w4.heap.size:=oM);(have dq:w.heap.size<w4.heap.size+1:=oM);(have dt:w.heap.size+1<w4.heap.size+1:=oM);(have dx:w.heap.size+1+1<w4.heap.size+1:=oM))|(go_at_call 58;(with_reducible refine(bg.out _ (ap.out.trans am) _ aK).mono ?_);rintro e w5 ⟨rfl,ab⟩;unfold spc;(try rw [hd]);obtain⟨cg,cj⟩:=ab.cells;(have z5:=ab.size);(try simp only [wZ,qdZ]at z5);(have dh:w.heap.size<w5.heap.size:=oM);(have dk:w.heap.size+1<w5.heap.size:=oM);(have dn:w.heap.size+1+1<w5.heap.size:=oM);(have dr:w.heap.size<w5.heap.size+1:=oM);(have du:w.heap.size+1<w5.heap.size+1:=oM);(have dy:w.heap.size+1+1<w5.heap.size+1:=oM))|(go_at_call 143;(with_reducible refine(ao.out _ (((ap.out.trans am).trans ab).alloc _) _ ((aK.ext' ab).ext' ((eR _).alloc _))).mono ?_);rintro e T ⟨aL,r1,r2,aj,ak,rfl⟩;obtain⟨bJ,bN,bL,bP,bK,bO,bM,rfl⟩:=aj.form;obtain⟨bC,bG,bE,bI,bD,bH,bF,rfl⟩:=ak.form;obtain⟨ch,ck⟩:=aL.cells;(have z6:=aL.size);(try simp only [wZ,qdZ]at z6);(have di:w.heap.size<T.heap.size:=oM);(have dl:w.heap.size+1<T.heap.size:=oM);(have dp:w.heap.size+1+1<T.heap.size:=oM);(have ds:w.heap.size<T.heap.size+1:=oM);(have dw:w.heap.size+1<T.heap.size+1:=oM);(have dz:w.heap.size+1+1<T.heap.size+1:=oM)))
  have aj:IsR T (.agg #[O bJ bN bL,V bP,O bK bO bM]) d.1:=aj;have ak:IsR T (.agg #[O bC bG bE,V bI,O bD bH bF]) d.2:=ak;obtain⟨W7,ae⟩:=gX (((T.alloc (.cells #[O bJ bN bL,V bP,O bK bO bM] 63)).alloc (.cells #[O bC bG bE,V bI,O bD bH bF] 63)));have aZ:Ext T W7:=by rw [←ae];exact((eR _).alloc _).alloc _
  have aY:Ext W3 W7:=((am.trans ab).trans (((eR _).alloc _).trans aL)).trans aZ;have bc:RB W7 T.heap.size d.1:=by rw [←ae];exact(RB.new aj rfl).ext ((eR _).alloc _)
  have be:RB W7 (T.heap.size+1) d.2:=by rw [←ae];exact RB.new (ak.ext ((eR _).alloc _)) sM
  have ac:=hd9 (aY.heapS bh.out);have bi:=hd9 (aY.heapS bV.out);have bk:=hd9 ((((aK.ext' ab).ext' ((eR _).alloc _)).ext' aL).ext' aZ);have cP:w.heap.size+1<T.heap.size:=oM
  have a1:=hd9 (ap.out.trans aY);rw [ae];obtain⟨j,af⟩:=gX T.heap.size;rw [af]at bc be cP;simp only [af];clear ae k0 k1 k2 k3 k4 k5 k6 k7 k8 k9 cp cq cr ct cu cv cw kf cf ci cg cj ch ck af aZ aj ak;obtain⟨pa,pm,bx,bB,bw,bA,bz,x0,x1,x2,cI,cJ,cK,xz,a3⟩:=bc.rd;obtain⟨ea,em,ec,es,bp,br,bq,y0,y1,y2,cL,cN,cO,yz,ag⟩:=be.rd
  have aS:∀q∈[((⟨j,0,Z⟩:Addr),Value.slice pa pm bx),(⟨j,1,Z⟩,V bB),(⟨j,2,Z⟩,O bw bA bz),(⟨j+1,0,Z⟩,O ea em ec),(⟨j+1,1,Z⟩,V es),(⟨j+1,2,Z⟩,O bp br bq)],w.heap.size+1≠q.1.block:=by
   intro q hq;simp at hq
   rcases hq with rfl|rfl|rfl|rfl|rfl|rfl<;>(dsimp only;omega)
  go_wp2;refine wp_region_held_drew (S:=CellL [(⟨j,0,Z⟩,O pa pm bx),(⟨j,1,Z⟩,V bB),(⟨j,2,Z⟩,O bw bA bz),(⟨j+1,0,Z⟩,O ea em ec),(⟨j+1,1,Z⟩,V es),(⟨j+1,2,Z⟩,O bp br bq)]) kM cA (fun f=>?_);refine sN 0 ?_
  iterate 3
   refine tkn ?_
  refine oN ?_;refine sN 4 ?_
  iterate 2
   refine tkn ?_
  refine oN ?_;refine sN 7 ?_
  iterate 3
   refine tkn ?_
  refine oN ?_;refine sN 11 ?_
  iterate 3
   refine tkn ?_
  refine oN ?_;have D0:Ext W7 W7.drew:=(eR _).drew;refine cl1 (i:=3) fun K y=>?_
  go_simp
  (with_reducible refine cM (aR.out _ (a1.out.trans D0) _ d.1 (a3.ext D0) (aa.out.1.mono oM) _ (D0.heapS ac.out)) ?_)
  rintro e w8 ⟨c9,rfl,cn,bv⟩;obtain⟨fa,fm,fc,fs,ar,ay,av,fb,fn,fk,ft,au,aA,aw,rfl,aU,aV⟩:=cn
  go_wp2_with fail
  refine kO y (cE f bv) (fun f=>?_);clear y K;have D8:Ext W7 w8:=D0.trans bv;refine cl1 (i:=6) fun K y=>?_
  go_simp
  (with_reducible refine cM (aR.out _ (a1.out.trans D8) _ d.2 (ag.ext D8) (aa.out.2.mono oM) _ (D8.heapS ac.out)) ?_)
  rintro e w9 ⟨da,rfl,co,a5⟩;obtain⟨aB,gm,aE,gs,aC,aG,gc2,gb,aH,gk,gt,aD,aI,aF,rfl,aW,aX⟩:=co
  go_wp2_with fail
  refine kO y (cE f a5) (fun f=>?_);clear y K;have D9:Ext W7 w9:=D8.trans a5;refine cl1 (i:=10) fun K y=>?_
  go_simp
  (with_reducible refine cM (bj.out _ _ _ _ d.1 d.2 (bk.out.ext' D9) (a3.ext D9) (aa.out.1.mono oM) (ag.ext D9) (aa.out.2.mono oM)) ?_)
  rintro e cH ⟨rfl,P⟩
  skip
  go_wp2_with fail
  refine kO y (cE f P) (fun f=>?_);clear y K;have an:Ext W7 cH:=D9.trans P;refine cl1 (i:=14) fun K y=>?_
  go_simp
  (with_reducible refine cM (bj.out _ _ _ _ d.2 d.2 (bk.out.ext' an) (ag.ext an) (aa.out.2.mono oM) (ag.ext an) (aa.out.2.mono oM)) ?_)
  rintro e aQ ⟨rfl,Q⟩
  skip
  go_wp2_with fail
  refine kO y (cE f Q) (fun f=>?_);clear y K;have bf:Ext W7 aQ:=an.trans Q;refine tk1 (i:=15) ?_;have r:=bf.heapS bi.out;have u0:=qcB r (i:=0) (u:=Y X 0) rfl;have u1:=qcB r (i:=1) (u:=O Z 0 0) rfl;have u2:=qcB r (i:=2) (u:=V false) rfl;have u3:=qcB r (i:=3) (u:=O Z 0 0) rfl;have u4:=qcB r (i:=4) (u:=O Z 0 0) rfl;have u5:=qcB r (i:=5) (u:=V false) rfl;have u6:=qcB r (i:=6) (u:=O Z 0 0) rfl;have u7:=qcB r (i:=7) (u:=O Z 0 0) rfl;have u8:=qcB r (i:=8) (u:=V false) rfl;have u9:=qcB r (i:=9) (u:=O Z 0 0) rfl;have cy:=qcB r (i:=10) (u:=O Z 0 0) rfl;have cz:=qcB r (i:=11) (u:=V false) rfl;have cB:=qcB r (i:=12) (u:=O Z 0 0) rfl;have cC:=qcB r (i:=13) (u:=Y X 0) rfl;have cD:=qcB r (i:=14) (u:=Y X 0) rfl;have cF:=qcB r (i:=15) (u:=Y X 0) rfl;have cG:=qcB r (i:=16) (u:=Y X 0) rfl;have uf:=qfB r;have zk:=zaa r;have HZ:=hd9 r;have Hf:=hd9 (show IsV aQ (.agg #[O fa fm fc,V fs,O ar ay av,O fb fn fk,V ft,O au aA aw]) d.1 (atR (lowP2 p) d.1)from((IsV.ext ⟨_,_,_,_,_,_,_,_,_,_,_,_,_,_,rfl,aU,aV⟩ a5).ext P).ext Q);have Hg:=hd9 (show IsV aQ (.agg #[O aB gm aE,V gs,O aC aG gc2,O gb aH gk,V gt,O aD aI aF]) d.2 (atR (lowP2 p) d.2)from(IsV.ext ⟨_,_,_,_,_,_,_,_,_,_,_,_,_,_,rfl,aW,aX⟩ P).ext Q);clear r aU aV aW aX x0 x1 x2 cI cJ cK y0 y1 y2 cL cN cO a3 ag;refine cl1 (i:=16) fun K y=>?_
  go_simp;refine kO y (CellL.set17 f aS _ _ _ _ _ _ _ _ _ _ _ _ _ _ _ _ _) (fun f=>?_);clear y K;refine tk1 (i:=17) ?_;refine wpAnyH_done kM ?_ _;clear f aS;go_wp2;have n0:NoT 2 aQ (w.heap.size+1):=by intro cs fr e;rw [HZ.out]at e;cases e
  have EZ:=hd9 (a1.out.trans bf);refine bR (v:=.tuple #[.agg #[Y X b,O fa fm fc,V fs,O ar ay av,O fb fn fk,V ft,O au aA aw,O aB gm aE,V gs,O aC aG gc2,O gb aH gk,V gt,O aD aI aF,Y X (slopeR l d.1 d.2).1,Y X (slopeR l d.1 d.2).2,Y X (slopeR l d.2 d.2).1,Y X (slopeR l d.2 d.2).2],V true]) (by simp [results,Tryz.results72,go_sem,zk,uf,u0,u1,u2,u3,u4,u5,u6,u7,u8,u9,cy,cz,cB,cC,cD,cF,cG]) rfl ?_;rw [←HR.out];refine⟨zea EZ.out (Nat.le_succ _) _ _ _ _ _ _ _ _ _ _ _ _ _ _ _ _ _,.inr ⟨_,[Y X b,O fa fm fc,V fs,O ar ay av,O fb fn fk,V ft,O au aA aw,O aB gm aE,V gs,O aC aG gc2,O gb aH gk,V gt,O aD aI aF,Y X (slopeR l d.1 d.2).1,Y X (slopeR l d.1 d.2).2,Y X (slopeR l d.2 d.2).1,Y X (slopeR l d.2 d.2).2],rfl,rfl,[O fa fm fc,V fs,O ar ay av,O fb fn fk,V ft,O au aA aw],[O aB gm aE,V gs,O aC aG gc2,O gb aH gk,V gt,O aD aI aF],rfl,Hf.out.keep (zeM n0 _ _ _ _ _ _ _ _ _ _ _ _ _ _ _ _ _),Hg.out.keep (zeM n0 _ _ _ _ _ _ _ _ _ _ _ _ _ _ _ _ _)⟩⟩
end
end Go.Proofs.YtjnjpagegkcgfaaGreatDoor.Cop
