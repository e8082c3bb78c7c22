/- Part 31. -/
import Derived.Test.YtjnjpagegkcgfaaGreatDoorCosA28
set_option maxRecDepth 1000000
set_option maxHeartbeats 16000000
set_option linter.unusedSimpArgs false
set_option linter.unusedVariables false
open Go.Value renaming slice->O,int->Y,bool->V
open Go.IntKind renaming i64->Z
open Option renaming none->X
namespace Go.Proofs.YtjnjpagegkcgfaaGreatDoor.Cop
section
open Go.RowKit Go.Shelf
attribute [local go_sem] Oper.semAt_some
theorem zkO(w:World)(vg vs:Value)(ps:List Pl)(a:Nat)(p:Pl)(b y:Int)(r:LP)(hg:∃a n c,vg=O a n c)(hs:IsLas w vs ps)(ha:ps[a]?=some p)(l:b<0\/∃(f:Nat)(q:Pl),b=(f:Int)/\ps[f]?=some q/\meetB p q=true/\(a:Int)≠b)(D:LnOk (lowP2 p))(hT:LnOk r)(aB:LnUp r)
  (af:∀W,Ext w W->Calls Tryz.prog 76 #[.agg #[vg,vs],Y Z b] W fun e w'=>∃v,e = .returned v/\IsPts w' v r/\Ext W w')(hp:Bd 104000 y)(aw:¬(btw (lowP2 p) r).lo<(btw (lowP2 p) r).hi) :
  Calls Tryz.prog 72 #[.agg #[vg,vs],Y Z a,Y Z b,Y Z y] w (RetBe w (bedO p r b y)):=by
 have aZ:(a:Int)≠b:=by
  rcases l with h|⟨f,q,_,_,_,h⟩
  ·omega
  ·exact h
 obtain⟨ga,gn,gc,rfl⟩:=hg;obtain⟨sa,n,sc,rfl⟩:=form3 hs;have hl:=hs.len;have aY:=hs.le;obtain⟨k,o,s,vl,vu,rfl,bq,d1,d2,d3,t⟩:=hs.at' ha;have ap:=hd9 (fun(W:World)(hW:Ext w W)(vt:Value)(h:IsPts W vt r)=>zbb W vl vt (lowP2 p) r (d2.ext' hW) h (List.length_pos_iff.2 D.1) (List.length_pos_iff.2 hT.1));have aq:=hd9 (fun(W:World)(hW:Ext w W)(vt:Value)(h:IsPts W vt r)=>zdZ W vl vt (btw (lowP2 p) r) y (d2.ext' hW) h (zcf D hT) hp);have bh:=hd9 (fun(W:World)(hW:Ext w W)(vx:Value)(x:Rat)(hx:IsR W vx x)(hb:Rb 1000 x)(bl:Nat)(aW:W.heap[bl]?=some (.cells (lac p s vl vu) 128 (0,0)))=>zcJ W vx x p bl s vl vu hx hb aW (d2.ext' hW) D);have bm:=hd9 (fun(W:World)(vt vx vr:Value)(x rt:Rat)(h:IsPts W vt r)(hx:IsR W vx x)(hb:Rb 1000 x)(hr:IsR W vr rt)(aX:Rb 1000 rt)=>zeb W vt vx vr r x rt h hT aB hx hb hr aX);have aH:=hd9 af;obtain⟨R,hR⟩:=gX (RetBe w (bedO p r b y));rw[hR];have HR:=hd9 hR;unfold bedO at HR;obtain⟨sp,aa⟩:=gX (btw (lowP2 p) r);rw[aa]at ap aq HR;have L:SpOk sp:=aa▸zcf D hT
 have aA:∀o,reachP sp y=some o->Rb 300 o.1/\Rb 300 o.2:=fun o ho=>by
  unfold reachP at ho
  split at ho
  ·cases ho
  ·cases ho
   have h1:Rb 300 (leastR sp).1:=(zas L _ (by unfold leastR;exact(zaM (gapR sp) (zbs sp)).1)).up dM;exact Rb.reach_n (o:=((leastR sp).1,(leastR sp).1)) ⟨h1,h1⟩ (zas L) (fun q hq=>Rb.pin_g (zas L q hq) L hp) _ (nE _)
 have bn:=hd9 aA;unfold spc at aq;obtain⟨ac,ae,ad,rfl⟩:=form3 d1;obtain⟨aj,al,ak,rfl⟩:=form3 d2;obtain⟨aD,aF,aE,rfl⟩:=form3 d3;have hi:=(lS.1 ha).1;have p1:(0:Int)<=(a:Int):=oM
 have p2:(a:Int)<(n:Int):=oM
 have p3:a<n:=oM
 have ar:=t 0 (.string p.name) rfl;have aI:=t 1 (O ac ae ad) rfl;have aJ:=t 2 (Y Z p.depth) rfl;have aK:=t 3 (Y Z p.density) rfl;have aL:=t 4 (Y Z p.gx) rfl;have aM:=t 5 (Y Z p.gz) rfl;have aO:=t 6 (Y Z p.way) rfl;have aP:=t 7 (Y Z p.ax) rfl;have aQ:=t 8 (Y Z p.az) rfl;have aR:=t 9 (Y .u8 p.skin) rfl;have au:=t 10 (O aj al ak) rfl;have av:=t 11 (O aD aF aE) rfl;simp only[Nat.add_zero]at ar;have bx:((a:Int)==b)=false:=by simpa using aZ
 rw[aa]at aw
 have z:=hd9 (show b<0\/∃(f:Nat)(q:Pl)(v2:Value),b=(f:Int)/\f<n/\meetB p q=true/\(∃a n c,v2=O a n c)/\∀(m:Nat) u,(plc q v2)[m]?=some u->w.cell? ⟨k,o+f*12+m,X⟩=some u from by
  rcases l with h|⟨f,q,h1,hq,h3,h4⟩
  ·exact .inl h
  ·obtain⟨b1,o1,s',bJ,bK,e9,br,aS,bo,bp,d⟩:=hs.at' hq
   cases e9
   have bw:=(lS.1 hq).1;exact .inr ⟨f,q,s',h1,by omega,h3,form3 aS,fun m u hu=>d m u (zgw hu)⟩)
 have bj:k<w.heap.size+1:=oM
 have bk:k<w.heap.size+1+1:=oM
 clear l hs ha t d1 d2 d3 hl aY hi af hR aA aa L hT aB D hp;go_enter Tryz.func72,Tryz.ntmps72
 go_upto_region 2 with fail
 go_cut [40] (BdH w (O ga gn gc) (O (some ⟨k,o,X⟩) n sc) (lac p (O ac ae ad) (O aj al ak) (O aD aF aE)))
 case first =>
  rcases z.out with hb|⟨f,q,v2,aV,r4,ay,⟨am,ao,an,rfl⟩,d⟩
  ·have aU:¬0<=b:=oM
   have aT:decide ((0:Int)<=b)=false:=by simp;omega
   refine wp_region_held_drew (S:=CellL []) kM trivial (fun ai=>?_);refine sN 0 ?_
   iterate 7
    refine tkn ?_
   iterate 10
    refine tkgn ?_
   iterate 2
    refine tkn ?_
   refine oN ?_;refine wpAnyH_done kM ?_ _;go_wp2;go_meet;exact⟨rfl,((((eR w).alloc _).alloc _).alloc _).drew,((((eR _).alloc _).alloc _).drew).heapS (aN w _),(((eR _).alloc _).drew).heapS (qhA _ _ _ sM),((eR _).drew).heapS (qhA _ _ _ sM)⟩
  ·subst aV
   have aU:(0:Int)<=(f:Int):=oM
   have aT:decide ((0:Int)<=(f:Int))=true:=sM
   have r2:(f:Int)<(n:Int):=oM
   have a7:=d 0 (.string q.name) rfl;have bA:=d 1 (O am ao an) rfl;have bB:=d 2 (Y Z q.depth) rfl;have bC:=d 3 (Y Z q.density) rfl;have bD:=d 4 (Y Z q.gx) rfl;have bE:=d 5 (Y Z q.gz) rfl;have bF:=d 6 (Y Z q.way) rfl;have bG:=d 7 (Y Z q.ax) rfl;have bH:=d 8 (Y Z q.az) rfl;have bI:=d 9 (Y .u8 q.skin) rfl;simp only[Nat.add_zero]at a7;have ag:=hd9 (fun(W:World)=>zbY W p q (O ac ae ad) (O am ao an) ⟨_,_,_,rfl⟩ ⟨_,_,_,rfl⟩);rw[ay]at ag;unfold plc at ag;clear d ay;refine wp_region_held_drew (S:=CellL [(⟨w.heap.size+1+1,0,X⟩,.string p.name),(⟨w.heap.size+1+1,1,X⟩,O ac ae ad),(⟨w.heap.size+1+1,2,X⟩,Y Z p.depth),(⟨w.heap.size+1+1,3,X⟩,Y Z p.density),(⟨w.heap.size+1+1,4,X⟩,Y Z p.gx),(⟨w.heap.size+1+1,5,X⟩,Y Z p.gz),(⟨w.heap.size+1+1,6,X⟩,Y Z p.way),(⟨w.heap.size+1+1,7,X⟩,Y Z p.ax),(⟨w.heap.size+1+1,8,X⟩,Y Z p.az),(⟨w.heap.size+1+1,9,X⟩,Y .u8 p.skin),(⟨w.heap.size,1,X⟩,O (some ⟨k,o,X⟩) n sc),(⟨k,o+f*12,X⟩,.string q.name),(⟨k,o+f*12+1,X⟩,O am ao an),(⟨k,o+f*12+2,X⟩,Y Z q.depth),(⟨k,o+f*12+3,X⟩,Y Z q.density),(⟨k,o+f*12+4,X⟩,Y Z q.gx),(⟨k,o+f*12+5,X⟩,Y Z q.gz),(⟨k,o+f*12+6,X⟩,Y Z q.way),(⟨k,o+f*12+7,X⟩,Y Z q.ax),(⟨k,o+f*12+8,X⟩,Y Z q.az),(⟨k,o+f*12+9,X⟩,Y .u8 q.skin)]) kM cA (fun ai=>?_);refine sN 0 ?_
   iterate 15
    refine tkn ?_
   refine oN ?_;refine cl1 (i:=15) fun K hK=>?_
   go_simp
   (with_reducible refine cM (ag.out _) ?_)
   rintro e w3 ⟨rfl,P⟩
   skip
   go_wp2_with fail
   refine kO hK (cE ai P) (fun ai=>?_);clear hK K;refine sN 16 ?_
   iterate 3
    refine tkn ?_
   refine oN ?_;refine wpAnyH_done kM ?_ _;go_wp2;go_meet;exact⟨rfl,((((eR w).alloc _).alloc _).alloc _).drew.trans P,P.heapS (((((eR _).alloc _).alloc _).drew).heapS (aN w _)),P.heapS ((((eR _).alloc _).drew).heapS (qhA _ _ _ sM)),P.heapS (((eR _).drew).heapS (qhA _ _ _ sM))⟩
 case rest =>
  obtain⟨rfl,X3,K4,g,T⟩:=hcut;obtain⟨W3,rfl⟩:∃W,W=wc:=⟨_,rfl⟩;have z3:w.heap.size+1+1<W3.heap.size:=zaa T;have bL:w.heap.size<W3.heap.size:=oM
  have bM:w.heap.size+1<W3.heap.size:=oM
  clear z ar aI aJ aK aL aM aO aP aQ aR au av;have s0:=qcB K4 (i:=0) (u:=O ga gn gc) rfl;have s1:=qcB K4 (i:=1) (u:=O (some ⟨k,o,X⟩) n sc) rfl;have bz:=qcB T (i:=10) (u:=O aj al ak) rfl;have k0:=qcB g (i:=0) (u:=Y Z 0) rfl;have k1:=qcB g (i:=1) (u:=O X 0 0) rfl;have k2:=qcB g (i:=2) (u:=V false) rfl;have k3:=qcB g (i:=3) (u:=O X 0 0) rfl;have k4:=qcB g (i:=4) (u:=O X 0 0) rfl;have k5:=qcB g (i:=5) (u:=V false) rfl;have k6:=qcB g (i:=6) (u:=O X 0 0) rfl;have k7:=qcB g (i:=7) (u:=O X 0 0) rfl;have k8:=qcB g (i:=8) (u:=V false) rfl;have k9:=qcB g (i:=9) (u:=O X 0 0) rfl;have a0:=qcB g (i:=10) (u:=O X 0 0) rfl;have a1:=qcB g (i:=11) (u:=V false) rfl;have a2:=qcB g (i:=12) (u:=O X 0 0) rfl;have a3:=qcB g (i:=13) (u:=Y Z 0) rfl;have a4:=qcB g (i:=14) (u:=Y Z 0) rfl;have a5:=qcB g (i:=15) (u:=Y Z 0) rfl;have a6:=qcB g (i:=16) (u:=Y Z 0) rfl;have kf:=qfB g;have aG:=hd9 g;have bi:=hd9 T;have ah:=hd9 X3;clear K4 g T X3;have hd:decide (sp.lo<sp.hi)=false:=by simp[aw]
  rw[if_neg oM]at HR
  go_wp2_with(first|(go_at_call 76;(with_reducible refine(aH.out _ ah.out).mono ?_);rintro e w4 ⟨vt,rfl,aC,Q⟩;obtain⟨ta,tn,tc,rfl⟩:=form3 aC;obtain⟨bs,bu⟩:=Q.cells;(have z4:=Q.size);(try simp only[wZ,qdZ]at z4);(have bN:w.heap.size<w4.heap.size:=oM);(have bP:w.heap.size+1<w4.heap.size:=oM);(have bQ:w.heap.size+1+1<w4.heap.size:=oM);(have bU:w.heap.size<w4.heap.size+1:=oM);(have bW:w.heap.size+1<w4.heap.size+1:=oM);(have bY:w.heap.size+1+1<w4.heap.size+1:=oM))|(go_at_call 58;(with_reducible refine(ap.out _ (ah.out.trans Q) _ aC).mono ?_);rintro e w5 ⟨rfl,ab⟩;unfold spc;(try rw[hd]);obtain⟨bt,bv⟩:=ab.cells;(have z5:=ab.size);(try simp only[wZ,qdZ]at z5);(have bO:w.heap.size<w5.heap.size:=oM);(have bg:w.heap.size+1<w5.heap.size:=oM);(have bT:w.heap.size+1+1<w5.heap.size:=oM);(have bV:w.heap.size<w5.heap.size+1:=oM);(have bX:w.heap.size+1<w5.heap.size+1:=oM);(have bZ:w.heap.size+1+1<w5.heap.size+1:=oM)))
  have j:=ab.heapS (Q.heapS aG.out);have u0:=qcB j (i:=0) (u:=Y Z 0) rfl;have u1:=qcB j (i:=1) (u:=O X 0 0) rfl;have u2:=qcB j (i:=2) (u:=V false) rfl;have u3:=qcB j (i:=3) (u:=O X 0 0) rfl;have u4:=qcB j (i:=4) (u:=O X 0 0) rfl;have u5:=qcB j (i:=5) (u:=V false) rfl;have u6:=qcB j (i:=6) (u:=O X 0 0) rfl;have u7:=qcB j (i:=7) (u:=O X 0 0) rfl;have u8:=qcB j (i:=8) (u:=V false) rfl;have u9:=qcB j (i:=9) (u:=O X 0 0) rfl;have a8:=qcB j (i:=10) (u:=O X 0 0) rfl;have a9:=qcB j (i:=11) (u:=V false) rfl;have ba:=qcB j (i:=12) (u:=O X 0 0) rfl;have bb:=qcB j (i:=13) (u:=Y Z 0) rfl;have bc:=qcB j (i:=14) (u:=Y Z 0) rfl;have be:=qcB j (i:=15) (u:=Y Z 0) rfl;have bf:=qcB j (i:=16) (u:=Y Z 0) rfl;have uf:=qfB j;have zk:=zaa j;have EZ:Ext w w5:=(ah.out.trans Q).trans ab;clear k0 k1 k2 k3 k4 k5 k6 k7 k8 k9 a0 a1 a2 a3 a4 a5 a6 kf j;refine bR (v:=.tuple #[.agg be0,V false]) (by unfold be0;simp[results,Tryz.results72,go_sem,zk,uf,bg,u0,u1,u2,u3,u4,u5,u6,u7,u8,u9,a8,a9,ba,bb,bc,be,bf]) rfl ?_;rw[<-HR.out];exact⟨(zdU EZ (Nat.le_succ _) _ _ _ _ _ _ _ _ _ _ _ _ _ _ _ _ _).alloc _,.inl ⟨rfl,rfl⟩⟩
end
end Go.Proofs.YtjnjpagegkcgfaaGreatDoor.Cop
