/- Part 20: contracts of what the law calls. -/
import Derived.Test.YtodpfeaihohpjaaGreatDoorCopA18
set_option maxRecDepth 1000000
set_option maxHeartbeats 16000000
set_option linter.unusedSimpArgs false
set_option linter.unusedVariables false
open Go.Value renaming slice→O,int→Y,bool→V,agg→N
open Go.IntKind renaming i64→Z
open Option renaming none→X,some→I
open Go renaming Value→J,World→M
namespace Go.Proofs.YtodpfeaihohpjaaGreatDoor.Cop
section
open Go.RowKit Go.Shelf
attribute [local go_sem] Oper.semAt_some
theorem zgO {q:Pl} {s b c:J} {m:Nat} {u:J} (h:(plc q s)[m]?=I u):(lac q s b c)[m]?=I u:=by
 have a:=(Array.getElem?_eq_some_iff.1 h).1;unfold plc at h a;unfold lac
 match m,a with
 | 0,_|1,_|2,_|3,_|4,_|5,_|6,_|7,_|8,_|9,_=>simpa using h
 | m+10,a=>exact absurd a (by simp only [List.size_toArray,List.length_cons,List.length_nil];omega)
def BdH (w:M) (b c:J) (a:Array J) (t40:J) (W:M):Prop:=
 t40=V false∧Ext w W∧W.heap[w.heap.size]?=I (.cells #[b,c] 108 (0,0))∧W.heap[w.heap.size+1]?=I (.cells be0 69 (0,0))∧W.heap[w.heap.size+1+1]?=I (.cells a 101 (0,0))
theorem zkZ (w:M) (vg vs:J) (ps:List Pl) (a:Nat) (p:Pl) (b pin:Int) (r:List (Int×Int)) (hg:∃a n c,vg=O a n c) (hs:IsLas w vs ps) (ha:ps[a]?=I p) (l:b<0∨∃(f:Nat) (q:Pl),b=(f:Int)∧ps[f]?=I q∧meetB p q=true∧(a:Int)≠b) (z:LnOk (lowP2 p)) (hT:LnOk r) (aB:LnUp r)
  (af:∀W,Ext w W→Calls Tryz.prog 94 #[N #[vg,vs],Y Z b] W fun e w'=>∃v,e = .returned v∧IsPts w' v r∧Ext W w') (hp:Bd 104000 pin) (aw:¬(btw (lowP2 p) r).lo<(btw (lowP2 p) r).hi) :
  Calls Tryz.prog 58 #[N #[vg,vs],Y Z a,Y Z b,Y Z pin] w (RetBe w (bedO p r b pin)):=by
 have aZ:(a:Int)≠b:=by
  rcases l with h|⟨f,q,_,_,_,h⟩
  ·omega
  ·exact h
 obtain⟨ga,gn,gc,rfl⟩:=hg;obtain⟨sa,n,sc,rfl⟩:=form3 hs;have hl:=hs.len;have aY:=hs.le;obtain⟨k,o,s,vl,vu,rfl,bp,d1,d2,d3,t⟩:=hs.at' ha;have ap:=hd9 (fun(W:M) (hW:Ext w W) (vt:J) (h:IsPts W vt r)=>za3 W vl vt (lowP2 p) r (d2.ext' hW) h (List.length_pos_iff.2 z.1) (List.length_pos_iff.2 hT.1));have aq:=hd9 (fun(W:M) (hW:Ext w W) (vt:J) (h:IsPts W vt r)=>zei W vl vt (btw (lowP2 p) r) pin (d2.ext' hW) h (zct z hT) hp);have bg:=hd9 (fun(W:M) (hW:Ext w W) (vx:J) (x:Rat) (hx:IsR W vx x) (hb:Rb 1000 x) (bl:Nat) (aW:W.heap[bl]?=I (.cells (lac p s vl vu) 101 (0,0)))=>zc9 W vx x p bl s vl vu hx hb aW (d2.ext' hW) z);have bk:=hd9 (fun(W:M) (vt vx vr:J) (x rt:Rat) (h:IsPts W vt r) (hx:IsR W vx x) (hb:Rb 1000 x) (hr:IsR W vr rt) (aX:Rb 1000 rt)=>zeq W vt vx vr r x rt h hT aB hx hb hr aX);have aH:=hd9 af;obtain⟨R,hR⟩:=gX (RetBe w (bedO p r b pin));rw [hR];have HR:=hd9 hR;unfold bedO at HR;obtain⟨sp,aa⟩:=gX (btw (lowP2 p) r);rw [aa]at ap aq HR;have D:SpOk sp:=aa▸zct z hT
 have aA:∀o,reachP sp pin=I o→Rb 300 o.1∧Rb 300 o.2:=fun o ho=>by
  unfold reachP at ho
  split at ho
  ·cases ho
  ·cases ho
   have h1:Rb 300 (leastR sp).1:=(zas D _ (by unfold leastR;exact(zav (gapR sp) (zaw sp)).1)).up dM;exact Rb.reach_n (o:=((leastR sp).1,(leastR sp).1)) ⟨h1,h1⟩ (zas D) (fun q hq=>Rb.pin_g (zas D q hq) D hp) _ (nE _)
 have bm:=hd9 aA;unfold spc at aq;obtain⟨ac,ae,ad,rfl⟩:=form3 d1;obtain⟨aj,al,ak,rfl⟩:=form3 d2;obtain⟨aD,aF,aE,rfl⟩:=form3 d3;have hi:=(lS.1 ha).1;have p1:(0:Int)≤(a:Int):=oM
 have p2:(a:Int)<(n:Int):=oM
 have p3:a<n:=oM
 have ar:=t 0 (.string p.name) rfl;have aI:=t 1 (O ac ae ad) rfl;have aJ:=t 2 (Y Z p.depth) rfl;have aK:=t 3 (Y Z p.density) rfl;have aL:=t 4 (Y Z p.gx) rfl;have aM:=t 5 (Y Z p.gz) rfl;have aO:=t 6 (Y Z p.way) rfl;have aP:=t 7 (Y Z p.ax) rfl;have aQ:=t 8 (Y Z p.az) rfl;have aR:=t 9 (Y .u8 p.skin) rfl;have au:=t 10 (O aj al ak) rfl;have av:=t 11 (O aD aF aE) rfl;simp only [Nat.add_zero]at ar;have bw:((a:Int)==b)=false:=by simpa using aZ
 rw [aa]at aw
 have y:=hd9 (show b<0∨∃(f:Nat) (q:Pl) (v2:J),b=(f:Int)∧f<n∧meetB p q=true∧(∃a n c,v2=O a n c)∧∀(m:Nat) u,(plc q v2)[m]?=I u→w.cell? ⟨k,o+f*12+m,X⟩=I u from by
  rcases l with h|⟨f,q,h1,hq,h3,h4⟩
  ·exact .inl h
  ·obtain⟨b1,o1,s',bI,bJ,e9,bq,aS,bn,bo,d⟩:=hs.at' hq
   cases e9
   have bv:=(lS.1 hq).1;exact .inr ⟨f,q,s',h1,by omega,h3,form3 aS,fun m u hu=>d m u (zgO hu)⟩)
 have bi:k<w.heap.size+1:=oM
 have bj:k<w.heap.size+1+1:=oM
 clear l hs ha t d1 d2 d3 hl aY hi af hR aA aa D hT aB z hp;go_enter Tryz.func58,Tryz.ntmps58
 go_upto_region 2 with fail
 go_cut [40] (BdH w (O ga gn gc) (O (I ⟨k,o,X⟩) n sc) (lac p (O ac ae ad) (O aj al ak) (O aD aF aE)))
 case first =>
  rcases y.out with hb|⟨f,q,v2,aV,r4,ay,⟨am,ao,an,rfl⟩,d⟩
  ·have aU:¬0≤b:=oM
   have aT:decide ((0:Int)≤b)=false:=by simp;omega
   refine wp_region_held_drew (S:=CellL []) kM trivial (fun ai=>?_);refine sN 0 ?_
   iterate 7
    refine tkn ?_
   iterate 10
    refine tkgn ?_
   iterate 2
    refine tkn ?_
   refine oN ?_;refine wpAnyH_done kM ?_ _;go_wp2;go_meet;exact⟨rfl,((((eR w).alloc _).alloc _).alloc _).drew,((((eR _).alloc _).alloc _).drew).heapS (aN w _),(((eR _).alloc _).drew).heapS (qhA _ _ _ sM),((eR _).drew).heapS (qhA _ _ _ sM)⟩
  ·subst aV
   have aU:(0:Int)≤(f:Int):=oM
   have aT:decide ((0:Int)≤(f:Int))=true:=sM
   have r2:(f:Int)<(n:Int):=oM
   have a7:=d 0 (.string q.name) rfl;have bz:=d 1 (O am ao an) rfl;have bA:=d 2 (Y Z q.depth) rfl;have bB:=d 3 (Y Z q.density) rfl;have bC:=d 4 (Y Z q.gx) rfl;have bD:=d 5 (Y Z q.gz) rfl;have bE:=d 6 (Y Z q.way) rfl;have bF:=d 7 (Y Z q.ax) rfl;have bG:=d 8 (Y Z q.az) rfl;have bH:=d 9 (Y .u8 q.skin) rfl;simp only [Nat.add_zero]at a7;have ag:=hd9 (fun(W:M)=>zck W p q (O ac ae ad) (O am ao an) ⟨_,_,_,rfl⟩ ⟨_,_,_,rfl⟩);rw [ay]at ag;unfold plc at ag;clear d ay;refine wp_region_held_drew (S:=CellL [(⟨w.heap.size+1+1,0,X⟩,.string p.name),(⟨w.heap.size+1+1,1,X⟩,O ac ae ad),(⟨w.heap.size+1+1,2,X⟩,Y Z p.depth),(⟨w.heap.size+1+1,3,X⟩,Y Z p.density),(⟨w.heap.size+1+1,4,X⟩,Y Z p.gx),(⟨w.heap.size+1+1,5,X⟩,Y Z p.gz),(⟨w.heap.size+1+1,6,X⟩,Y Z p.way),(⟨w.heap.size+1+1,7,X⟩,Y Z p.ax),(⟨w.heap.size+1+1,8,X⟩,Y Z p.az),(⟨w.heap.size+1+1,9,X⟩,Y .u8 p.skin),(⟨w.heap.size,1,X⟩,O (I ⟨k,o,X⟩) n sc),(⟨k,o+f*12,X⟩,.string q.name),(⟨k,o+f*12+1,X⟩,O am ao an),(⟨k,o+f*12+2,X⟩,Y Z q.depth),(⟨k,o+f*12+3,X⟩,Y Z q.density),(⟨k,o+f*12+4,X⟩,Y Z q.gx),(⟨k,o+f*12+5,X⟩,Y Z q.gz),(⟨k,o+f*12+6,X⟩,Y Z q.way),(⟨k,o+f*12+7,X⟩,Y Z q.ax),(⟨k,o+f*12+8,X⟩,Y Z q.az),(⟨k,o+f*12+9,X⟩,Y .u8 q.skin)]) kM cA (fun ai=>?_);refine sN 0 ?_
   iterate 15
    refine tkn ?_
   refine oN ?_;refine cl1 (i:=15) fun K hK=>?_
   go_simp
   (with_reducible refine cM (ag.out _) ?_)
   rintro e w3 ⟨rfl,P⟩
   skip
   go_wp2_with fail
   refine kO hK (cE ai P) (fun ai=>?_);clear hK K;refine sN 16 ?_
   iterate 3
    refine tkn ?_
   refine oN ?_;refine wpAnyH_done kM ?_ _;go_wp2;go_meet;exact⟨rfl,((((eR w).alloc _).alloc _).alloc _).drew.trans P,P.heapS (((((eR _).alloc _).alloc _).drew).heapS (aN w _)),P.heapS ((((eR _).alloc _).drew).heapS (qhA _ _ _ sM)),P.heapS (((eR _).drew).heapS (qhA _ _ _ sM))⟩
 case rest =>
  obtain⟨rfl,X3,K4,g,T⟩:=hcut;obtain⟨W3,rfl⟩:∃W,W=wc:=⟨_,rfl⟩;have z3:w.heap.size+1+1<W3.heap.size:=zaa T;have bK:w.heap.size<W3.heap.size:=oM
  have bL:w.heap.size+1<W3.heap.size:=oM
  clear y ar aI aJ aK aL aM aO aP aQ aR au av;have s0:=qcB K4 (i:=0) (u:=O ga gn gc) rfl;have s1:=qcB K4 (i:=1) (u:=O (I ⟨k,o,X⟩) n sc) rfl;have bx:=qcB T (i:=10) (u:=O aj al ak) rfl;have k0:=qcB g (i:=0) (u:=Y Z 0) rfl;have k1:=qcB g (i:=1) (u:=O X 0 0) rfl;have k2:=qcB g (i:=2) (u:=V false) rfl;have k3:=qcB g (i:=3) (u:=O X 0 0) rfl;have k4:=qcB g (i:=4) (u:=O X 0 0) rfl;have k5:=qcB g (i:=5) (u:=V false) rfl;have k6:=qcB g (i:=6) (u:=O X 0 0) rfl;have k7:=qcB g (i:=7) (u:=O X 0 0) rfl;have k8:=qcB g (i:=8) (u:=V false) rfl;have k9:=qcB g (i:=9) (u:=O X 0 0) rfl;have a0:=qcB g (i:=10) (u:=O X 0 0) rfl;have a1:=qcB g (i:=11) (u:=V false) rfl;have a2:=qcB g (i:=12) (u:=O X 0 0) rfl;have a3:=qcB g (i:=13) (u:=Y Z 0) rfl;have a4:=qcB g (i:=14) (u:=Y Z 0) rfl;have a5:=qcB g (i:=15) (u:=Y Z 0) rfl;have a6:=qcB g (i:=16) (u:=Y Z 0) rfl;have kf:=qfB g;have aG:=hd9 g;have bh:=hd9 T;have ah:=hd9 X3;clear K4 g T X3;have hd:decide (sp.lo<sp.hi)=false:=by simp [aw]
  rw [if_neg oM]at HR
  go_wp2_with(first|(go_at_call 94;(with_reducible refine(aH.out _ ah.out).mono ?_);rintro e w4 ⟨vt,rfl,aC,Q⟩;obtain⟨ta,tn,tc,rfl⟩:=form3 aC;obtain⟨br,bt⟩:=Q.cells;(have z4:=Q.size);(try simp only [wZ,qdZ]at z4);(have bM:w.heap.size<w4.heap.size:=oM);(have bO:w.heap.size+1<w4.heap.size:=oM);(have bP:w.heap.size+1+1<w4.heap.size:=oM);(have bT:w.heap.size<w4.heap.size+1:=oM);(have bV:w.heap.size+1<w4.heap.size+1:=oM);(have bX:w.heap.size+1+1<w4.heap.size+1:=oM))|(go_at_call 53;(with_reducible refine(ap.out _ (ah.out.trans Q) _ aC).mono ?_);rintro e w5 ⟨rfl,ab⟩;unfold spc;(try rw [hd]);obtain⟨bs,bu⟩:=ab.cells;(have z5:=ab.size);(try simp only [wZ,qdZ]at z5);(have bN:w.heap.size<w5.heap.size:=oM);(have bf:w.heap.size+1<w5.heap.size:=oM);(have bQ:w.heap.size+1+1<w5.heap.size:=oM);(have bU:w.heap.size<w5.heap.size+1:=oM);(have bW:w.heap.size+1<w5.heap.size+1:=oM);(have bY:w.heap.size+1+1<w5.heap.size+1:=oM)))
  have j:=ab.heapS (Q.heapS aG.out);have u0:=qcB j (i:=0) (u:=Y Z 0) rfl;have u1:=qcB j (i:=1) (u:=O X 0 0) rfl;have u2:=qcB j (i:=2) (u:=V false) rfl;have u3:=qcB j (i:=3) (u:=O X 0 0) rfl;have u4:=qcB j (i:=4) (u:=O X 0 0) rfl;have u5:=qcB j (i:=5) (u:=V false) rfl;have u6:=qcB j (i:=6) (u:=O X 0 0) rfl;have u7:=qcB j (i:=7) (u:=O X 0 0) rfl;have u8:=qcB j (i:=8) (u:=V false) rfl;have u9:=qcB j (i:=9) (u:=O X 0 0) rfl;have a8:=qcB j (i:=10) (u:=O X 0 0) rfl;have a9:=qcB j (i:=11) (u:=V false) rfl;have ba:=qcB j (i:=12) (u:=O X 0 0) rfl;have bb:=qcB j (i:=13) (u:=Y Z 0) rfl;have bc:=qcB j (i:=14) (u:=Y Z 0) rfl;have bd:=qcB j (i:=15) (u:=Y Z 0) rfl;have be:=qcB j (i:=16) (u:=Y Z 0) rfl;have uf:=qfB j;have zk:=zaa j;have EZ:Ext w w5:=(ah.out.trans Q).trans ab;clear k0 k1 k2 k3 k4 k5 k6 k7 k8 k9 a0 a1 a2 a3 a4 a5 a6 kf j;refine bR (v:=.tuple #[N be0,V false]) (by unfold be0;simp [results,Tryz.results58,go_sem,zk,uf,bf,u0,u1,u2,u3,u4,u5,u6,u7,u8,u9,a8,a9,ba,bb,bc,bd,be]) rfl ?_;rw [←HR.out];exact⟨(zee EZ (Nat.le_succ _) _ _ _ _ _ _ _ _ _ _ _ _ _ _ _ _ _).alloc _,.inl ⟨rfl,rfl⟩⟩
theorem zkY (w:M) (vg vs:J) (ps:List Pl) (a:Nat) (p:Pl) (b pin:Int) (r:List (Int×Int)) (hg:∃a n c,vg=O a n c) (hs:IsLas w vs ps) (ha:ps[a]?=I p) (l:b<0∨∃(f:Nat) (q:Pl),b=(f:Int)∧ps[f]?=I q∧meetB p q=true∧(a:Int)≠b) (P:LnOk (lowP2 p)) (hT:LnOk r) (aE:LnUp r)
  (ai:∀W,Ext w W→Calls Tryz.prog 94 #[N #[vg,vs],Y Z b] W fun e w'=>∃v,e = .returned v∧IsPts w' v r∧Ext W w') (hp:Bd 104000 pin) (al:(btw (lowP2 p) r).lo<(btw (lowP2 p) r).hi) (aD:reachP (btw (lowP2 p) r) pin=X) :
  Calls Tryz.prog 58 #[N #[vg,vs],Y Z a,Y Z b,Y Z pin] w (RetBe w (bedO p r b pin)):=by
 have a1:(a:Int)≠b:=by
  rcases l with h|⟨f,q,_,_,_,h⟩
  ·omega
  ·exact h
 obtain⟨ga,gn,gc,rfl⟩:=hg;obtain⟨sa,n,sc,rfl⟩:=form3 hs;have hl:=hs.len;have a0:=hs.le;obtain⟨k,o,s,vl,vu,rfl,bu,d1,d2,d3,t⟩:=hs.at' ha;have av:=hd9 (fun(W:M) (hW:Ext w W) (vt:J) (h:IsPts W vt r)=>za3 W vl vt (lowP2 p) r (d2.ext' hW) h (List.length_pos_iff.2 P.1) (List.length_pos_iff.2 hT.1));have aa:=hd9 (fun(W:M) (hW:Ext w W) (vt:J) (h:IsPts W vt r)=>zei W vl vt (btw (lowP2 p) r) pin (d2.ext' hW) h (zct P hT) hp);have bm:=hd9 (fun(W:M) (hW:Ext w W) (vx:J) (x:Rat) (hx:IsR W vx x) (hb:Rb 1000 x) (bl:Nat) (aY:W.heap[bl]?=I (.cells (lac p s vl vu) 101 (0,0)))=>zc9 W vx x p bl s vl vu hx hb aY (d2.ext' hW) P);have bq:=hd9 (fun(W:M) (vt vx vr:J) (x rt:Rat) (h:IsPts W vt r) (hx:IsR W vx x) (hb:Rb 1000 x) (hr:IsR W vr rt) (aZ:Rb 1000 rt)=>zeq W vt vx vr r x rt h hT aE hx hb hr aZ);have aJ:=hd9 ai;obtain⟨R,hR⟩:=gX (RetBe w (bedO p r b pin));rw [hR];have HR:=hd9 hR;unfold bedO at HR;obtain⟨sp,ad⟩:=gX (btw (lowP2 p) r);rw [ad]at av aa HR;have Q:SpOk sp:=ad▸zct P hT
 have aC:∀o,reachP sp pin=I o→Rb 300 o.1∧Rb 300 o.2:=fun o ho=>by
  unfold reachP at ho
  split at ho
  ·cases ho
  ·cases ho
   have h1:Rb 300 (leastR sp).1:=(zas Q _ (by unfold leastR;exact(zav (gapR sp) (zaw sp)).1)).up dM;exact Rb.reach_n (o:=((leastR sp).1,(leastR sp).1)) ⟨h1,h1⟩ (zas Q) (fun q hq=>Rb.pin_g (zas Q q hq) Q hp) _ (nE _)
 have br:=hd9 aC;unfold spc at aa;obtain⟨af,ah,ag,rfl⟩:=form3 d1;obtain⟨an,ap,ao,rfl⟩:=form3 d2;obtain⟨aF,aH,aG,rfl⟩:=form3 d3;have hi:=(lS.1 ha).1;have p1:(0:Int)≤(a:Int):=oM
 have p2:(a:Int)<(n:Int):=oM
 have p3:a<n:=oM
 have aw:=t 0 (.string p.name) rfl;have aK:=t 1 (O af ah ag) rfl;have aL:=t 2 (Y Z p.depth) rfl;have aM:=t 3 (Y Z p.density) rfl;have aO:=t 4 (Y Z p.gx) rfl;have aP:=t 5 (Y Z p.gz) rfl;have aQ:=t 6 (Y Z p.way) rfl;have aR:=t 7 (Y Z p.ax) rfl;have aS:=t 8 (Y Z p.az) rfl;have aT:=t 9 (Y .u8 p.skin) rfl;have ay:=t 10 (O an ap ao) rfl;have aA:=t 11 (O aF aH aG) rfl;simp only [Nat.add_zero]at aw;have bE:((a:Int)==b)=false:=by simpa using a1
 rw [ad]at al aD
 have D:=hd9 (show b<0∨∃(f:Nat) (q:Pl) (v2:J),b=(f:Int)∧f<n∧meetB p q=true∧(∃a n c,v2=O a n c)∧∀(m:Nat) u,(plc q v2)[m]?=I u→w.cell? ⟨k,o+f*12+m,X⟩=I u from by
  rcases l with h|⟨f,q,h1,hq,h3,h4⟩
  ·exact .inl h
  ·obtain⟨b1,o1,s',b7,b8,e9,bv,aU,bs,bt,d⟩:=hs.at' hq
   cases e9
   have bD:=(lS.1 hq).1;exact .inr ⟨f,q,s',h1,by omega,h3,form3 aU,fun m u hu=>d m u (zgO hu)⟩)
 have bo:k<w.heap.size+1:=oM
 have bp:k<w.heap.size+1+1:=oM
 clear l hs ha t d1 d2 d3 hl a0 hi ai hR aC ad Q hT aE P hp;go_enter Tryz.func58,Tryz.ntmps58
 go_upto_region 2 with fail
 go_cut [40] (BdH w (O ga gn gc) (O (I ⟨k,o,X⟩) n sc) (lac p (O af ah ag) (O an ap ao) (O aF aH aG)))
 case first =>
  rcases D.out with hb|⟨f,q,v2,aX,r4,aB,⟨aq,au,ar,rfl⟩,d⟩
  ·have aW:¬0≤b:=oM
   have aV:decide ((0:Int)≤b)=false:=by simp;omega
   refine wp_region_held_drew (S:=CellL []) kM trivial (fun ak=>?_);refine sN 0 ?_
   iterate 7
    refine tkn ?_
   iterate 10
    refine tkgn ?_
   iterate 2
    refine tkn ?_
   refine oN ?_;refine wpAnyH_done kM ?_ _;go_wp2;go_meet;exact⟨rfl,((((eR w).alloc _).alloc _).alloc _).drew,((((eR _).alloc _).alloc _).drew).heapS (aN w _),(((eR _).alloc _).drew).heapS (qhA _ _ _ sM),((eR _).drew).heapS (qhA _ _ _ sM)⟩
  ·subst aX
   have aW:(0:Int)≤(f:Int):=oM
   have aV:decide ((0:Int)≤(f:Int))=true:=sM
   have r2:(f:Int)<(n:Int):=oM
   have bb:=d 0 (.string q.name) rfl;have bM:=d 1 (O aq au ar) rfl;have bN:=d 2 (Y Z q.depth) rfl;have bO:=d 3 (Y Z q.density) rfl;have bP:=d 4 (Y Z q.gx) rfl;have bQ:=d 5 (Y Z q.gz) rfl;have bT:=d 6 (Y Z q.way) rfl;have bU:=d 7 (Y Z q.ax) rfl;have bV:=d 8 (Y Z q.az) rfl;have bW:=d 9 (Y .u8 q.skin) rfl;simp only [Nat.add_zero]at bb;have aj:=hd9 (fun(W:M)=>zck W p q (O af ah ag) (O aq au ar) ⟨_,_,_,rfl⟩ ⟨_,_,_,rfl⟩);rw [aB]at aj;unfold plc at aj;clear d aB;refine wp_region_held_drew (S:=CellL [(⟨w.heap.size+1+1,0,X⟩,.string p.name),(⟨w.heap.size+1+1,1,X⟩,O af ah ag),(⟨w.heap.size+1+1,2,X⟩,Y Z p.depth),(⟨w.heap.size+1+1,3,X⟩,Y Z p.density),(⟨w.heap.size+1+1,4,X⟩,Y Z p.gx),(⟨w.heap.size+1+1,5,X⟩,Y Z p.gz),(⟨w.heap.size+1+1,6,X⟩,Y Z p.way),(⟨w.heap.size+1+1,7,X⟩,Y Z p.ax),(⟨w.heap.size+1+1,8,X⟩,Y Z p.az),(⟨w.heap.size+1+1,9,X⟩,Y .u8 p.skin),(⟨w.heap.size,1,X⟩,O (I ⟨k,o,X⟩) n sc),(⟨k,o+f*12,X⟩,.string q.name),(⟨k,o+f*12+1,X⟩,O aq au ar),(⟨k,o+f*12+2,X⟩,Y Z q.depth),(⟨k,o+f*12+3,X⟩,Y Z q.density),(⟨k,o+f*12+4,X⟩,Y Z q.gx),(⟨k,o+f*12+5,X⟩,Y Z q.gz),(⟨k,o+f*12+6,X⟩,Y Z q.way),(⟨k,o+f*12+7,X⟩,Y Z q.ax),(⟨k,o+f*12+8,X⟩,Y Z q.az),(⟨k,o+f*12+9,X⟩,Y .u8 q.skin)]) kM cA (fun ak=>?_);refine sN 0 ?_
   iterate 15
    refine tkn ?_
   refine oN ?_;refine cl1 (i:=15) fun K hK=>?_
   go_simp
   (with_reducible refine cM (aj.out _) ?_)
   rintro e w3 ⟨rfl,T⟩
   skip
   go_wp2_with fail
   refine kO hK (cE ak T) (fun ak=>?_);clear hK K;refine sN 16 ?_
   iterate 3
    refine tkn ?_
   refine oN ?_;refine wpAnyH_done kM ?_ _;go_wp2;go_meet;exact⟨rfl,((((eR w).alloc _).alloc _).alloc _).drew.trans T,T.heapS (((((eR _).alloc _).alloc _).drew).heapS (aN w _)),T.heapS ((((eR _).alloc _).drew).heapS (qhA _ _ _ sM)),T.heapS (((eR _).drew).heapS (qhA _ _ _ sM))⟩
 case rest =>
  obtain⟨rfl,X3,K4,g,ac⟩:=hcut;obtain⟨W3,rfl⟩:∃W,W=wc:=⟨_,rfl⟩;have z3:w.heap.size+1+1<W3.heap.size:=zaa ac;have b9:w.heap.size<W3.heap.size:=oM
  have ca:w.heap.size+1<W3.heap.size:=oM
  clear D aw aK aL aM aO aP aQ aR aS aT ay aA;have s0:=qcB K4 (i:=0) (u:=O ga gn gc) rfl;have s1:=qcB K4 (i:=1) (u:=O (I ⟨k,o,X⟩) n sc) rfl;have bF:=qcB ac (i:=10) (u:=O an ap ao) rfl;have k0:=qcB g (i:=0) (u:=Y Z 0) rfl;have k1:=qcB g (i:=1) (u:=O X 0 0) rfl;have k2:=qcB g (i:=2) (u:=V false) rfl;have k3:=qcB g (i:=3) (u:=O X 0 0) rfl;have k4:=qcB g (i:=4) (u:=O X 0 0) rfl;have k5:=qcB g (i:=5) (u:=V false) rfl;have k6:=qcB g (i:=6) (u:=O X 0 0) rfl;have k7:=qcB g (i:=7) (u:=O X 0 0) rfl;have k8:=qcB g (i:=8) (u:=V false) rfl;have k9:=qcB g (i:=9) (u:=O X 0 0) rfl;have a4:=qcB g (i:=10) (u:=O X 0 0) rfl;have a5:=qcB g (i:=11) (u:=V false) rfl;have a6:=qcB g (i:=12) (u:=O X 0 0) rfl;have a7:=qcB g (i:=13) (u:=Y Z 0) rfl;have a8:=qcB g (i:=14) (u:=Y Z 0) rfl;have a9:=qcB g (i:=15) (u:=Y Z 0) rfl;have ba:=qcB g (i:=16) (u:=Y Z 0) rfl;have kf:=qfB g;have aI:=hd9 g;have bn:=hd9 ac;have ab:=hd9 X3;clear K4 g ac X3;have hd:decide (sp.lo<sp.hi)=true:=by simp [al]
  rw [if_pos al]at HR;rw [aD]at aa HR
  go_wp2_with(first|(go_at_call 94;(with_reducible refine(aJ.out _ ab.out).mono ?_);rintro e w4 ⟨vt,rfl,am,y⟩;obtain⟨ta,tn,tc,rfl⟩:=form3 am;obtain⟨bw,bA⟩:=y.cells;(have z4:=y.size);(try simp only [wZ,qdZ]at z4);(have cb:w.heap.size<w4.heap.size:=oM);(have ce:w.heap.size+1<w4.heap.size:=oM);(have cg:w.heap.size+1+1<w4.heap.size:=oM);(have cj:w.heap.size<w4.heap.size+1:=oM);(have cm:w.heap.size+1<w4.heap.size+1:=oM);(have co:w.heap.size+1+1<w4.heap.size+1:=oM))|(go_at_call 53;(with_reducible refine(av.out _ (ab.out.trans y) _ am).mono ?_);rintro e w5 ⟨rfl,z⟩;unfold spc;(try rw [hd]);obtain⟨bx,bB⟩:=z.cells;(have z5:=z.size);(try simp only [wZ,qdZ]at z5);(have cc:w.heap.size<w5.heap.size:=oM);(have cf:w.heap.size+1<w5.heap.size:=oM);(have ch:w.heap.size+1+1<w5.heap.size:=oM);(have ck:w.heap.size<w5.heap.size+1:=oM);(have cn:w.heap.size+1<w5.heap.size+1:=oM);(have cp:w.heap.size+1+1<w5.heap.size+1:=oM))|(go_at_call 108;(with_reducible refine(aa.out _ (((ab.out.trans y).trans z).alloc _) _ ((am.ext' z).ext' ((eR _).alloc _))).mono ?_);rintro e w6 ⟨ae,r1,r2,a2,a3,rfl⟩;obtain⟨bY,b4,b2,b6,bZ,b5,b3,rfl⟩:=a2.form;obtain⟨bG,bK,bI,bX,bH,bL,bJ,rfl⟩:=a3.form;obtain⟨bz,bC⟩:=ae.cells;(have z6:=ae.size);(try simp only [wZ,qdZ]at z6);(have cd:w.heap.size<w6.heap.size:=oM);(have bj:w.heap.size+1<w6.heap.size:=oM);(have ci:w.heap.size+1+1<w6.heap.size:=oM);(have cl:w.heap.size<w6.heap.size+1:=oM);(have bk:w.heap.size+1<w6.heap.size+1:=oM);(have cq:w.heap.size+1+1<w6.heap.size+1:=oM)))
  have j:=ae.heapS (((eR _).alloc _).heapS (z.heapS (y.heapS aI.out)));have u0:=qcB j (i:=0) (u:=Y Z 0) rfl;have u1:=qcB j (i:=1) (u:=O X 0 0) rfl;have u2:=qcB j (i:=2) (u:=V false) rfl;have u3:=qcB j (i:=3) (u:=O X 0 0) rfl;have u4:=qcB j (i:=4) (u:=O X 0 0) rfl;have u5:=qcB j (i:=5) (u:=V false) rfl;have u6:=qcB j (i:=6) (u:=O X 0 0) rfl;have u7:=qcB j (i:=7) (u:=O X 0 0) rfl;have u8:=qcB j (i:=8) (u:=V false) rfl;have u9:=qcB j (i:=9) (u:=O X 0 0) rfl;have bc:=qcB j (i:=10) (u:=O X 0 0) rfl;have bd:=qcB j (i:=11) (u:=V false) rfl;have be:=qcB j (i:=12) (u:=O X 0 0) rfl;have bf:=qcB j (i:=13) (u:=Y Z 0) rfl;have bg:=qcB j (i:=14) (u:=Y Z 0) rfl;have bh:=qcB j (i:=15) (u:=Y Z 0) rfl;have bi:=qcB j (i:=16) (u:=Y Z 0) rfl;have uf:=qfB j;have zk:=zaa j;have EZ:Ext w w6:=(((ab.out.trans y).trans z).alloc _).trans ae;clear k0 k1 k2 k3 k4 k5 k6 k7 k8 k9 a4 a5 a6 a7 a8 a9 ba kf j;refine bR (v:=.tuple #[N be0,V false]) (by unfold be0;simp [results,Tryz.results58,go_sem,zk,uf,bk,bj,u0,u1,u2,u3,u4,u5,u6,u7,u8,u9,bc,bd,be,bf,bg,bh,bi]) rfl ?_;rw [←HR.out];exact⟨((zee EZ (Nat.le_succ _) _ _ _ _ _ _ _ _ _ _ _ _ _ _ _ _ _).alloc _).alloc _,.inl ⟨rfl,rfl⟩⟩
theorem zk1 (w:M) (vg vs:J) (ps:List Pl) (a:Nat) (p:Pl) (b pin:Int) (l:List (Int×Int)) (hg:∃a n c,vg=O a n c) (hs:IsLas w vs ps) (ha:ps[a]?=I p) (D:b<0∨∃(k:Nat) (q:Pl),b=(k:Int)∧ps[k]?=I q∧meetB p q=true∧(a:Int)≠b) (ah:LnOk (lowP2 p)) (hT:LnOk l) (bu:LnUp l)
  (aU:∀W,Ext w W→Calls Tryz.prog 94 #[N #[vg,vs],Y Z b] W fun e w'=>∃v,e = .returned v∧IsPts w' v l∧Ext W w') (hp:Bd 104000 pin) (a3:(btw (lowP2 p) l).lo<(btw (lowP2 p) l).hi) (d:Rat×Rat) (a5:reachP (btw (lowP2 p) l) pin=I d) :
  Calls Tryz.prog 58 #[N #[vg,vs],Y Z a,Y Z b,Y Z pin] w (RetBe w (bedO p l b pin)):=by
 have cm:(a:Int)≠b:=by
  rcases D with h|⟨k,q,_,_,_,h⟩
  ·omega
  ·exact h
 obtain⟨ga,gn,gc,rfl⟩:=hg;obtain⟨sa,n,sc,rfl⟩:=form3 hs;have hl:=hs.len;have cl:=hs.le;obtain⟨z,o,s,vl,vu,rfl,cU,d1,d2,d3,hc⟩:=hs.at' ha;have bg:=hd9 (fun(W:M) (hW:Ext w W) (vt:J) (h:IsPts W vt l)=>za3 W vl vt (lowP2 p) l (d2.ext' hW) h (List.length_pos_iff.2 ah.1) (List.length_pos_iff.2 hT.1));have ao:=hd9 (fun(W:M) (hW:Ext w W) (vt:J) (h:IsPts W vt l)=>zei W vl vt (btw (lowP2 p) l) pin (d2.ext' hW) h (zct ah hT) hp);have aS:=hd9 (fun(W:M) (hW:Ext w W) (vx:J) (x:Rat) (hx:IsR W vx x) (hb:Rb 1000 x) (bl:Nat) (cd:W.heap[bl]?=I (.cells (lac p s vl vu) 101 (0,0)))=>zc9 W vx x p bl s vl vu hx hb cd (d2.ext' hW) ah);have bj:=hd9 (fun(W:M) (vt vx vr:J) (x rt:Rat) (h:IsPts W vt l) (hx:IsR W vx x) (hb:Rb 1000 x) (hr:IsR W vr rt) (ce:Rb 1000 rt)=>zeq W vt vx vr l x rt h hT bu hx hb hr ce);have bW:=hd9 aU;obtain⟨R,hR⟩:=gX (RetBe w (bedO p l b pin));rw [hR];have HR:=hd9 hR;unfold bedO at HR;obtain⟨sp,aK⟩:=gX (btw (lowP2 p) l);rw [aK]at bg ao HR;have ai:SpOk sp:=aK▸zct ah hT
 have bt:∀o,reachP sp pin=I o→Rb 300 o.1∧Rb 300 o.2:=fun o ho=>by
  unfold reachP at ho
  split at ho
  ·cases ho
  ·cases ho
   have h1:Rb 300 (leastR sp).1:=(zas ai _ (by unfold leastR;exact(zav (gapR sp) (zaw sp)).1)).up dM;exact Rb.reach_n (o:=((leastR sp).1,(leastR sp).1)) ⟨h1,h1⟩ (zas ai) (fun q hq=>Rb.pin_g (zas ai q hq) ai hp) _ (nE _)
 have bX:=hd9 bt;unfold spc at ao;obtain⟨aO,aQ,aP,rfl⟩:=form3 d1;obtain⟨a7,a9,a8,rfl⟩:=form3 d2;obtain⟨bQ,bU,bT,rfl⟩:=form3 d3;have hi:=(lS.1 ha).1;have p1:(0:Int)≤(a:Int):=oM
 have p2:(a:Int)<(n:Int):=oM
 have p3:a<n:=oM
 have bm:=hc 0 (.string p.name) rfl;have bY:=hc 1 (O aO aQ aP) rfl;have bZ:=hc 2 (Y Z p.depth) rfl;have b2:=hc 3 (Y Z p.density) rfl;have b3:=hc 4 (Y Z p.gx) rfl;have b4:=hc 5 (Y Z p.gz) rfl;have b5:=hc 6 (Y Z p.way) rfl;have b6:=hc 7 (Y Z p.ax) rfl;have b7:=hc 8 (Y Z p.az) rfl;have b8:=hc 9 (Y .u8 p.skin) rfl;have bn:=hc 10 (O a7 a9 a8) rfl;have bo:=hc 11 (O bQ bU bT) rfl;simp only [Nat.add_zero]at bm;have cY:((a:Int)==b)=false:=by simpa using cm
 rw [aK]at a3 a5
 have ad:=hd9 (show b<0∨∃(k:Nat) (q:Pl) (v2:J),b=(k:Int)∧k<n∧meetB p q=true∧(∃a n c,v2=O a n c)∧∀(m:Nat) u,(plc q v2)[m]?=I u→w.cell? ⟨z,o+k*12+m,X⟩=I u from by
  rcases D with h|⟨k,q,h1,hq,h3,h4⟩
  ·exact .inl h
  ·obtain⟨b1,o1,s',db,dc,e9,cV,b9,cS,cT,g⟩:=hs.at' hq
   cases e9
   have cW:=(lS.1 hq).1;exact .inr ⟨k,q,s',h1,by omega,h3,form3 b9,fun m u hu=>g m u (zgO hu)⟩)
 have cQ:z<w.heap.size+1:=oM
 have cR:z<w.heap.size+1+1:=oM
 clear D hs ha hc d1 d2 d3 hl cl hi aU hR bt aK ai hT bu ah hp;go_enter Tryz.func58,Tryz.ntmps58
 go_upto_region 2 with fail
 go_cut [40] (BdH w (O ga gn gc) (O (I ⟨z,o,X⟩) n sc) (lac p (O aO aQ aP) (O a7 a9 a8) (O bQ bU bT)))
 case first =>
  rcases ad.out with hb|⟨k,q,v2,cc,r4,bs,⟨ba,bc,bb,rfl⟩,g⟩
  ·have cb:¬0≤b:=oM
   have ca:decide ((0:Int)≤b)=false:=by simp;omega
   refine wp_region_held_drew (S:=CellL []) kM trivial (fun f=>?_);refine sN 0 ?_
   iterate 7
    refine tkn ?_
   iterate 10
    refine tkgn ?_
   iterate 2
    refine tkn ?_
   refine oN ?_;refine wpAnyH_done kM ?_ _;go_wp2;go_meet;exact⟨rfl,((((eR w).alloc _).alloc _).alloc _).drew,((((eR _).alloc _).alloc _).drew).heapS (aN w _),(((eR _).alloc _).drew).heapS (qhA _ _ _ sM),((eR _).drew).heapS (qhA _ _ _ sM)⟩
  ·subst cc
   have cb:(0:Int)≤(k:Int):=oM
   have ca:decide ((0:Int)≤(k:Int))=true:=sM
   have r2:(k:Int)<(n:Int):=oM
   have cx:=g 0 (.string q.name) rfl;have c0:=g 1 (O ba bc bb) rfl;have c1:=g 2 (Y Z q.depth) rfl;have c2:=g 3 (Y Z q.density) rfl;have c3:=g 4 (Y Z q.gx) rfl;have c4:=g 5 (Y Z q.gz) rfl;have c5:=g 6 (Y Z q.way) rfl;have c6:=g 7 (Y Z q.ax) rfl;have c7:=g 8 (Y Z q.az) rfl;have c8:=g 9 (Y .u8 q.skin) rfl;simp only [Nat.add_zero]at cx;have a1:=hd9 (fun(W:M)=>zck W p q (O aO aQ aP) (O ba bc bb) ⟨_,_,_,rfl⟩ ⟨_,_,_,rfl⟩);rw [bs]at a1;unfold plc at a1;clear g bs;refine wp_region_held_drew (S:=CellL [(⟨w.heap.size+1+1,0,X⟩,.string p.name),(⟨w.heap.size+1+1,1,X⟩,O aO aQ aP),(⟨w.heap.size+1+1,2,X⟩,Y Z p.depth),(⟨w.heap.size+1+1,3,X⟩,Y Z p.density),(⟨w.heap.size+1+1,4,X⟩,Y Z p.gx),(⟨w.heap.size+1+1,5,X⟩,Y Z p.gz),(⟨w.heap.size+1+1,6,X⟩,Y Z p.way),(⟨w.heap.size+1+1,7,X⟩,Y Z p.ax),(⟨w.heap.size+1+1,8,X⟩,Y Z p.az),(⟨w.heap.size+1+1,9,X⟩,Y .u8 p.skin),(⟨w.heap.size,1,X⟩,O (I ⟨z,o,X⟩) n sc),(⟨z,o+k*12,X⟩,.string q.name),(⟨z,o+k*12+1,X⟩,O ba bc bb),(⟨z,o+k*12+2,X⟩,Y Z q.depth),(⟨z,o+k*12+3,X⟩,Y Z q.density),(⟨z,o+k*12+4,X⟩,Y Z q.gx),(⟨z,o+k*12+5,X⟩,Y Z q.gz),(⟨z,o+k*12+6,X⟩,Y Z q.way),(⟨z,o+k*12+7,X⟩,Y Z q.ax),(⟨z,o+k*12+8,X⟩,Y Z q.az),(⟨z,o+k*12+9,X⟩,Y .u8 q.skin)]) kM cA (fun f=>?_);refine sN 0 ?_
   iterate 15
    refine tkn ?_
   refine oN ?_;refine cl1 (i:=15) fun K y=>?_
   go_simp
   (with_reducible refine cM (a1.out _) ?_)
   rintro e w3 ⟨rfl,al⟩
   skip
   go_wp2_with fail
   refine kO y (cE f al) (fun f=>?_);clear y K;refine sN 16 ?_
   iterate 3
    refine tkn ?_
   refine oN ?_;refine wpAnyH_done kM ?_ _;go_wp2;go_meet;exact⟨rfl,((((eR w).alloc _).alloc _).alloc _).drew.trans al,al.heapS (((((eR _).alloc _).alloc _).drew).heapS (aN w _)),al.heapS ((((eR _).alloc _).drew).heapS (qhA _ _ _ sM)),al.heapS (((eR _).drew).heapS (qhA _ _ _ sM))⟩
 case rest =>
  obtain⟨rfl,X3,K4,t,aq⟩:=hcut;obtain⟨W3,rfl⟩:∃W,W=wc:=⟨_,rfl⟩;have z3:w.heap.size+1+1<W3.heap.size:=zaa aq;have dd:w.heap.size<W3.heap.size:=oM
  have de:w.heap.size+1<W3.heap.size:=oM
  clear ad bm bY bZ b2 b3 b4 b5 b6 b7 b8 bn bo;have s0:=qcB K4 (i:=0) (u:=O ga gn gc) rfl;have s1:=qcB K4 (i:=1) (u:=O (I ⟨z,o,X⟩) n sc) rfl;have cZ:=qcB aq (i:=10) (u:=O a7 a9 a8) rfl;have k0:=qcB t (i:=0) (u:=Y Z 0) rfl;have k1:=qcB t (i:=1) (u:=O X 0 0) rfl;have k2:=qcB t (i:=2) (u:=V false) rfl;have k3:=qcB t (i:=3) (u:=O X 0 0) rfl;have k4:=qcB t (i:=4) (u:=O X 0 0) rfl;have k5:=qcB t (i:=5) (u:=V false) rfl;have k6:=qcB t (i:=6) (u:=O X 0 0) rfl;have k7:=qcB t (i:=7) (u:=O X 0 0) rfl;have k8:=qcB t (i:=8) (u:=V false) rfl;have k9:=qcB t (i:=9) (u:=O X 0 0) rfl;have cp:=qcB t (i:=10) (u:=O X 0 0) rfl;have cq:=qcB t (i:=11) (u:=V false) rfl;have cr:=qcB t (i:=12) (u:=O X 0 0) rfl;have ct:=qcB t (i:=13) (u:=Y Z 0) rfl;have cu:=qcB t (i:=14) (u:=Y Z 0) rfl;have cv:=qcB t (i:=15) (u:=Y Z 0) rfl;have cw:=qcB t (i:=16) (u:=Y Z 0) rfl;have kf:=qfB t;have bV:=hd9 t;have bh:=hd9 aq;have ap:=hd9 X3;clear K4 t aq X3;have hd:decide (sp.lo<sp.hi)=true:=by simp [a3]
  rw [if_pos a3]at HR;rw [a5]at ao HR;have aa:=hd9 (bX.out d a5);have cX:∀(fn:Fn) (first cap:Array J) (w:M),(Instr.makeFunc fn first cap).run Tryz.prog w = .ok (.func fn first cap) w:=fun _ _ _ _=>rfl
  go_wp2_with(first|(go_at_call 94;(with_reducible refine(bW.out _ ap.out).mono ?_);rintro e w4 ⟨vt,rfl,aL,am⟩;obtain⟨ta,tn,tc,rfl⟩:=form3 aL;obtain⟨cf,ci⟩:=am.cells;(have z4:=am.size);(try simp only [wZ,qdZ]at z4);(have dg:w.heap.size<w4.heap.size:=oM);(have dj:w.heap.size+1<w4.heap.size:=oM);(have dm:w.heap.size+1+1<w4.heap.size:=oM);(have dq:w.heap.size<w4.heap.size+1:=oM);(have dt:w.heap.size+1<w4.heap.size+1:=oM);(have dx:w.heap.size+1+1<w4.heap.size+1:=oM))|(go_at_call 53;(with_reducible refine(bg.out _ (ap.out.trans am) _ aL).mono ?_);rintro e w5 ⟨rfl,ab⟩;unfold spc;(try rw [hd]);obtain⟨cg,cj⟩:=ab.cells;(have z5:=ab.size);(try simp only [wZ,qdZ]at z5);(have dh:w.heap.size<w5.heap.size:=oM);(have dk:w.heap.size+1<w5.heap.size:=oM);(have dn:w.heap.size+1+1<w5.heap.size:=oM);(have dr:w.heap.size<w5.heap.size+1:=oM);(have du:w.heap.size+1<w5.heap.size+1:=oM);(have dy:w.heap.size+1+1<w5.heap.size+1:=oM))|(go_at_call 108;(with_reducible refine(ao.out _ (((ap.out.trans am).trans ab).alloc _) _ ((aL.ext' ab).ext' ((eR _).alloc _))).mono ?_);rintro e T ⟨aM,r1,r2,aj,ak,rfl⟩;obtain⟨bJ,bN,bL,bP,bK,bO,bM,rfl⟩:=aj.form;obtain⟨bC,bG,bE,bI,bD,bH,bF,rfl⟩:=ak.form;obtain⟨ch,ck⟩:=aM.cells;(have z6:=aM.size);(try simp only [wZ,qdZ]at z6);(have di:w.heap.size<T.heap.size:=oM);(have dl:w.heap.size+1<T.heap.size:=oM);(have dp:w.heap.size+1+1<T.heap.size:=oM);(have ds:w.heap.size<T.heap.size+1:=oM);(have dw:w.heap.size+1<T.heap.size+1:=oM);(have dz:w.heap.size+1+1<T.heap.size+1:=oM)))
  have aj:IsR T (N #[O bJ bN bL,V bP,O bK bO bM]) d.1:=aj;have ak:IsR T (N #[O bC bG bE,V bI,O bD bH bF]) d.2:=ak;obtain⟨W7,ae⟩:=gX (((T.alloc (.cells #[O bJ bN bL,V bP,O bK bO bM] 65)).alloc (.cells #[O bC bG bE,V bI,O bD bH bF] 65)));have a0:Ext T W7:=by rw [←ae];exact((eR _).alloc _).alloc _
  have aZ:Ext W3 W7:=((am.trans ab).trans (((eR _).alloc _).trans aM)).trans a0;have bd:RB W7 T.heap.size d.1:=by rw [←ae];exact(RB.new aj rfl).ext ((eR _).alloc _)
  have be:RB W7 (T.heap.size+1) d.2:=by rw [←ae];exact RB.new (ak.ext ((eR _).alloc _)) sM
  have ac:=hd9 (aZ.heapS bh.out);have bi:=hd9 (aZ.heapS bV.out);have bk:=hd9 ((((aL.ext' ab).ext' ((eR _).alloc _)).ext' aM).ext' a0);have cP:w.heap.size+1<T.heap.size:=oM
  have a2:=hd9 (ap.out.trans aZ);rw [ae];obtain⟨j,af⟩:=gX T.heap.size;rw [af]at bd be cP;simp only [af];clear ae k0 k1 k2 k3 k4 k5 k6 k7 k8 k9 cp cq cr ct cu cv cw kf cf ci cg cj ch ck af a0 aj ak;obtain⟨pa,pm,bx,bB,bw,bA,bz,x0,x1,x2,cI,cJ,cK,xz,a4⟩:=bd.rd;obtain⟨ea,em,ec,es,bp,br,bq,y0,y1,y2,cL,cN,cO,yz,ag⟩:=be.rd
  have aT:∀q∈[((⟨j,0,X⟩:Addr),Value.slice pa pm bx),(⟨j,1,X⟩,V bB),(⟨j,2,X⟩,O bw bA bz),(⟨j+1,0,X⟩,O ea em ec),(⟨j+1,1,X⟩,V es),(⟨j+1,2,X⟩,O bp br bq)],w.heap.size+1≠q.1.block:=by
   intro q hq;simp at hq
   rcases hq with rfl|rfl|rfl|rfl|rfl|rfl<;>(dsimp only;omega)
  go_wp2;refine wp_region_held_drew (S:=CellL [(⟨j,0,X⟩,O pa pm bx),(⟨j,1,X⟩,V bB),(⟨j,2,X⟩,O bw bA bz),(⟨j+1,0,X⟩,O ea em ec),(⟨j+1,1,X⟩,V es),(⟨j+1,2,X⟩,O bp br bq)]) kM cA (fun f=>?_);refine sN 0 ?_
  iterate 3
   refine tkn ?_
  refine oN ?_;refine sN 4 ?_
  iterate 2
   refine tkn ?_
  refine oN ?_;refine sN 7 ?_
  iterate 3
   refine tkn ?_
  refine oN ?_;refine sN 11 ?_
  iterate 3
   refine tkn ?_
  refine oN ?_;have D0:Ext W7 W7.drew:=(eR _).drew;refine cl1 (i:=3) fun K y=>?_
  go_simp
  (with_reducible refine cM (aS.out _ (a2.out.trans D0) _ d.1 (a4.ext D0) (aa.out.1.mono oM) _ (D0.heapS ac.out)) ?_)
  rintro e w8 ⟨c9,rfl,cn,bv⟩;obtain⟨fa,fm,fc,fs,ar,ay,av,fb,fn,fk,ft,au,aA,aw,rfl,aV,aW⟩:=cn
  go_wp2_with fail
  refine kO y (cE f bv) (fun f=>?_);clear y K;have D8:Ext W7 w8:=D0.trans bv;refine cl1 (i:=6) fun K y=>?_
  go_simp
  (with_reducible refine cM (aS.out _ (a2.out.trans D8) _ d.2 (ag.ext D8) (aa.out.2.mono oM) _ (D8.heapS ac.out)) ?_)
  rintro e w9 ⟨da,rfl,co,a6⟩;obtain⟨aB,gm,aE,gs,aC,aH,aF,gb,aI,gk,gt,aD,aJ,aG,rfl,aX,aY⟩:=co
  go_wp2_with fail
  refine kO y (cE f a6) (fun f=>?_);clear y K;have D9:Ext W7 w9:=D8.trans a6;refine cl1 (i:=10) fun K y=>?_
  go_simp
  (with_reducible refine cM (bj.out _ _ _ _ d.1 d.2 (bk.out.ext' D9) (a4.ext D9) (aa.out.1.mono oM) (ag.ext D9) (aa.out.2.mono oM)) ?_)
  rintro e cH ⟨rfl,P⟩
  skip
  go_wp2_with fail
  refine kO y (cE f P) (fun f=>?_);clear y K;have an:Ext W7 cH:=D9.trans P;refine cl1 (i:=14) fun K y=>?_
  go_simp
  (with_reducible refine cM (bj.out _ _ _ _ d.2 d.2 (bk.out.ext' an) (ag.ext an) (aa.out.2.mono oM) (ag.ext an) (aa.out.2.mono oM)) ?_)
  rintro e aR ⟨rfl,Q⟩
  skip
  go_wp2_with fail
  refine kO y (cE f Q) (fun f=>?_);clear y K;have bf:Ext W7 aR:=an.trans Q;refine tk1 (i:=15) ?_;have r:=bf.heapS bi.out;have u0:=qcB r (i:=0) (u:=Y Z 0) rfl;have u1:=qcB r (i:=1) (u:=O X 0 0) rfl;have u2:=qcB r (i:=2) (u:=V false) rfl;have u3:=qcB r (i:=3) (u:=O X 0 0) rfl;have u4:=qcB r (i:=4) (u:=O X 0 0) rfl;have u5:=qcB r (i:=5) (u:=V false) rfl;have u6:=qcB r (i:=6) (u:=O X 0 0) rfl;have u7:=qcB r (i:=7) (u:=O X 0 0) rfl;have u8:=qcB r (i:=8) (u:=V false) rfl;have u9:=qcB r (i:=9) (u:=O X 0 0) rfl;have cy:=qcB r (i:=10) (u:=O X 0 0) rfl;have cz:=qcB r (i:=11) (u:=V false) rfl;have cB:=qcB r (i:=12) (u:=O X 0 0) rfl;have cC:=qcB r (i:=13) (u:=Y Z 0) rfl;have cD:=qcB r (i:=14) (u:=Y Z 0) rfl;have cF:=qcB r (i:=15) (u:=Y Z 0) rfl;have cG:=qcB r (i:=16) (u:=Y Z 0) rfl;have uf:=qfB r;have zk:=zaa r;have HZ:=hd9 r;have Hf:=hd9 (show IsV aR (N #[O fa fm fc,V fs,O ar ay av,O fb fn fk,V ft,O au aA aw]) d.1 (atR (lowP2 p) d.1)from((IsV.ext ⟨_,_,_,_,_,_,_,_,_,_,_,_,_,_,rfl,aV,aW⟩ a6).ext P).ext Q);have Hg:=hd9 (show IsV aR (N #[O aB gm aE,V gs,O aC aH aF,O gb aI gk,V gt,O aD aJ aG]) d.2 (atR (lowP2 p) d.2)from(IsV.ext ⟨_,_,_,_,_,_,_,_,_,_,_,_,_,_,rfl,aX,aY⟩ P).ext Q);clear r aV aW aX aY x0 x1 x2 cI cJ cK y0 y1 y2 cL cN cO a4 ag;refine cl1 (i:=16) fun K y=>?_
  go_simp;refine kO y (CellL.set17 f aT _ _ _ _ _ _ _ _ _ _ _ _ _ _ _ _ _) (fun f=>?_);clear y K;refine tk1 (i:=17) ?_;refine wpAnyH_done kM ?_ _;clear f aT;go_wp2;have n0:NoT 2 aR (w.heap.size+1):=by intro cs fr e;rw [HZ.out]at e;cases e
  have EZ:=hd9 (a2.out.trans bf);refine bR (v:=.tuple #[N #[Y Z b,O fa fm fc,V fs,O ar ay av,O fb fn fk,V ft,O au aA aw,O aB gm aE,V gs,O aC aH aF,O gb aI gk,V gt,O aD aJ aG,Y Z (slopeR l d.1 d.2).1,Y Z (slopeR l d.1 d.2).2,Y Z (slopeR l d.2 d.2).1,Y Z (slopeR l d.2 d.2).2],V true]) (by simp [results,Tryz.results58,go_sem,zk,uf,u0,u1,u2,u3,u4,u5,u6,u7,u8,u9,cy,cz,cB,cC,cD,cF,cG]) rfl ?_;rw [←HR.out];refine⟨zee EZ.out (Nat.le_succ _) _ _ _ _ _ _ _ _ _ _ _ _ _ _ _ _ _,.inr ⟨_,[Y Z b,O fa fm fc,V fs,O ar ay av,O fb fn fk,V ft,O au aA aw,O aB gm aE,V gs,O aC aH aF,O gb aI gk,V gt,O aD aJ aG,Y Z (slopeR l d.1 d.2).1,Y Z (slopeR l d.1 d.2).2,Y Z (slopeR l d.2 d.2).1,Y Z (slopeR l d.2 d.2).2],rfl,rfl,[O fa fm fc,V fs,O ar ay av,O fb fn fk,V ft,O au aA aw],[O aB gm aE,V gs,O aC aH aF,O gb aI gk,V gt,O aD aJ aG],rfl,Hf.out.keep (ze2 n0 _ _ _ _ _ _ _ _ _ _ _ _ _ _ _ _ _),Hg.out.keep (ze2 n0 _ _ _ _ _ _ _ _ _ _ _ _ _ _ _ _ _)⟩⟩
theorem zlZ (w:M) (k l:J) (ps:List Pl) (a:Nat) (p:Pl) (b pin:Int) (g:List (Int×Int)) (r:∃a n c,k=O a n c) (t:IsLas w l ps) (o:ps[a]?=I p) (d:b<0∨∃(u:Nat) (q:Pl),b=(u:Int)∧ps[u]?=I q∧meetB p q=true∧(a:Int)≠b) (h:LnOk (lowP2 p)) (m:LnOk g) (j:LnUp g)
  (f:∀W,Ext w W→Calls Tryz.prog 94 #[N #[k,l],Y Z b] W fun e x=>∃v,e = .returned v∧IsPts x v g∧Ext W x) (s:Bd 104000 pin) :
  Calls Tryz.prog 58 #[N #[k,l],Y Z a,Y Z b,Y Z pin] w (RetBe w (bedO p g b pin)):=by
 by_cases i:(btw (lowP2 p) g).lo<(btw (lowP2 p) g).hi
 ·cases hro:reachP (btw (lowP2 p) g) pin with
  | none=>exact zkY w k l ps a p b pin g r t o d h m j f s i hro
  | some y=>exact zk1 w k l ps a p b pin g r t o d h m j f s i y hro
 ·exact zkZ w k l ps a p b pin g r t o d h m j f s i
end
end Go.Proofs.YtodpfeaihohpjaaGreatDoor.Cop
