/- Part 32. -/
import Derived.Test.YtjnjpagegkcgfaaGreatDoorCosA28
set_option maxRecDepth 1000000
set_option maxHeartbeats 16000000
set_option linter.unusedSimpArgs false
set_option linter.unusedVariables false
open Go.Value renaming slice->O,int->Y,bool->V
open Go.IntKind renaming i64->Z
open Option renaming none->X
namespace Go.Proofs.YtjnjpagegkcgfaaGreatDoor.Cop
section
open Go.RowKit Go.Shelf
attribute [local go_sem] Oper.semAt_some
theorem zkN(w:World)(vg vs:Value)(ps:List Pl)(a:Nat)(p:Pl)(b r:Int)(t:LP)(hg:∃a n c,vg=O a n c)(hs:IsLas w vs ps)(ha:ps[a]?=some p)(l:b<0\/∃(f:Nat)(q:Pl),b=(f:Int)/\ps[f]?=some q/\meetB p q=true/\(a:Int)≠b)(P:LnOk (lowP2 p))(hT:LnOk t)(aE:LnUp t)
  (ai:∀W,Ext w W->Calls Tryz.prog 76 #[.agg #[vg,vs],Y Z b] W fun e w'=>∃v,e = .returned v/\IsPts w' v t/\Ext W w')(hp:Bd 104000 r)(al:(btw (lowP2 p) t).lo<(btw (lowP2 p) t).hi)(aD:reachP (btw (lowP2 p) t) r=X) :
  Calls Tryz.prog 72 #[.agg #[vg,vs],Y Z a,Y Z b,Y Z r] w (RetBe w (bedO p t b r)):=by
 have a1:(a:Int)≠b:=by
  rcases l with h|⟨f,q,_,_,_,h⟩
  ·omega
  ·exact h
 obtain⟨ga,gn,gc,rfl⟩:=hg;obtain⟨sa,n,sc,rfl⟩:=form3 hs;have hl:=hs.len;have a0:=hs.le;obtain⟨k,o,s,vl,vu,rfl,bv,d1,d2,d3,y⟩:=hs.at' ha;have av:=hd9 (fun(W:World)(hW:Ext w W)(vt:Value)(h:IsPts W vt t)=>zbb W vl vt (lowP2 p) t (d2.ext' hW) h (List.length_pos_iff.2 P.1) (List.length_pos_iff.2 hT.1));have aa:=hd9 (fun(W:World)(hW:Ext w W)(vt:Value)(h:IsPts W vt t)=>zdZ W vl vt (btw (lowP2 p) t) r (d2.ext' hW) h (zcf P hT) hp);have bn:=hd9 (fun(W:World)(hW:Ext w W)(vx:Value)(x:Rat)(hx:IsR W vx x)(hb:Rb 1000 x)(bl:Nat)(aY:W.heap[bl]?=some (.cells (lac p s vl vu) 128 (0,0)))=>zcJ W vx x p bl s vl vu hx hb aY (d2.ext' hW) P);have br:=hd9 (fun(W:World)(vt vx vr:Value)(x rt:Rat)(h:IsPts W vt t)(hx:IsR W vx x)(hb:Rb 1000 x)(hr:IsR W vr rt)(aZ:Rb 1000 rt)=>zeb W vt vx vr t x rt h hT aE hx hb hr aZ);have aJ:=hd9 ai;obtain⟨R,hR⟩:=gX (RetBe w (bedO p t b r));rw[hR];have HR:=hd9 hR;unfold bedO at HR;obtain⟨sp,ad⟩:=gX (btw (lowP2 p) t);rw[ad]at av aa HR;have Q:SpOk sp:=ad▸zcf P hT
 have aC:∀o,reachP sp r=some o->Rb 300 o.1/\Rb 300 o.2:=fun o ho=>by
  unfold reachP at ho
  split at ho
  ·cases ho
  ·cases ho
   have h1:Rb 300 (leastR sp).1:=(zas Q _ (by unfold leastR;exact(zaM (gapR sp) (zbs sp)).1)).up dM;exact Rb.reach_n (o:=((leastR sp).1,(leastR sp).1)) ⟨h1,h1⟩ (zas Q) (fun q hq=>Rb.pin_g (zas Q q hq) Q hp) _ (nE _)
 have bs:=hd9 aC;unfold spc at aa;obtain⟨af,ah,ag,rfl⟩:=form3 d1;obtain⟨an,ap,ao,rfl⟩:=form3 d2;obtain⟨aF,aH,aG,rfl⟩:=form3 d3;have hi:=(lS.1 ha).1;have p1:(0:Int)<=(a:Int):=oM
 have p2:(a:Int)<(n:Int):=oM
 have p3:a<n:=oM
 have aw:=y 0 (.string p.name) rfl;have aK:=y 1 (O af ah ag) rfl;have aL:=y 2 (Y Z p.depth) rfl;have aM:=y 3 (Y Z p.density) rfl;have aO:=y 4 (Y Z p.gx) rfl;have aP:=y 5 (Y Z p.gz) rfl;have aQ:=y 6 (Y Z p.way) rfl;have aR:=y 7 (Y Z p.ax) rfl;have aS:=y 8 (Y Z p.az) rfl;have aT:=y 9 (Y .u8 p.skin) rfl;have ay:=y 10 (O an ap ao) rfl;have aA:=y 11 (O aF aH aG) rfl;simp only[Nat.add_zero]at aw;have bF:((a:Int)==b)=false:=by simpa using a1
 rw[ad]at al aD
 have L:=hd9 (show b<0\/∃(f:Nat)(q:Pl)(v2:Value),b=(f:Int)/\f<n/\meetB p q=true/\(∃a n c,v2=O a n c)/\∀(m:Nat) u,(plc q v2)[m]?=some u->w.cell? ⟨k,o+f*12+m,X⟩=some u from by
  rcases l with h|⟨f,q,h1,hq,h3,h4⟩
  ·exact .inl h
  ·obtain⟨b1,o1,s',b8,b9,e9,bw,aU,bt,bu,d⟩:=hs.at' hq
   cases e9
   have bE:=(lS.1 hq).1;exact .inr ⟨f,q,s',h1,by omega,h3,form3 aU,fun m u hu=>d m u (zgw hu)⟩)
 have bp:k<w.heap.size+1:=oM
 have bq:k<w.heap.size+1+1:=oM
 clear l hs ha y d1 d2 d3 hl a0 hi ai hR aC ad Q hT aE P hp;go_enter Tryz.func72,Tryz.ntmps72
 go_upto_region 2 with fail
 go_cut [40] (BdH w (O ga gn gc) (O (some ⟨k,o,X⟩) n sc) (lac p (O af ah ag) (O an ap ao) (O aF aH aG)))
 case first =>
  rcases L.out with hb|⟨f,q,v2,aX,r4,aB,⟨aq,au,ar,rfl⟩,d⟩
  ·have aW:¬0<=b:=oM
   have aV:decide ((0:Int)<=b)=false:=by simp;omega
   refine wp_region_held_drew (S:=CellL []) kM trivial (fun ak=>?_);refine sN 0 ?_
   iterate 7
    refine tkn ?_
   iterate 10
    refine tkgn ?_
   iterate 2
    refine tkn ?_
   refine oN ?_;refine wpAnyH_done kM ?_ _;go_wp2;go_meet;exact⟨rfl,((((eR w).alloc _).alloc _).alloc _).drew,((((eR _).alloc _).alloc _).drew).heapS (aN w _),(((eR _).alloc _).drew).heapS (qhA _ _ _ sM),((eR _).drew).heapS (qhA _ _ _ sM)⟩
  ·subst aX
   have aW:(0:Int)<=(f:Int):=oM
   have aV:decide ((0:Int)<=(f:Int))=true:=sM
   have r2:(f:Int)<(n:Int):=oM
   have bb:=d 0 (.string q.name) rfl;have bN:=d 1 (O aq au ar) rfl;have bO:=d 2 (Y Z q.depth) rfl;have bP:=d 3 (Y Z q.density) rfl;have bQ:=d 4 (Y Z q.gx) rfl;have bT:=d 5 (Y Z q.gz) rfl;have bU:=d 6 (Y Z q.way) rfl;have bV:=d 7 (Y Z q.ax) rfl;have bW:=d 8 (Y Z q.az) rfl;have bX:=d 9 (Y .u8 q.skin) rfl;simp only[Nat.add_zero]at bb;have aj:=hd9 (fun(W:World)=>zbY W p q (O af ah ag) (O aq au ar) ⟨_,_,_,rfl⟩ ⟨_,_,_,rfl⟩);rw[aB]at aj;unfold plc at aj;clear d aB;refine wp_region_held_drew (S:=CellL [(⟨w.heap.size+1+1,0,X⟩,.string p.name),(⟨w.heap.size+1+1,1,X⟩,O af ah ag),(⟨w.heap.size+1+1,2,X⟩,Y Z p.depth),(⟨w.heap.size+1+1,3,X⟩,Y Z p.density),(⟨w.heap.size+1+1,4,X⟩,Y Z p.gx),(⟨w.heap.size+1+1,5,X⟩,Y Z p.gz),(⟨w.heap.size+1+1,6,X⟩,Y Z p.way),(⟨w.heap.size+1+1,7,X⟩,Y Z p.ax),(⟨w.heap.size+1+1,8,X⟩,Y Z p.az),(⟨w.heap.size+1+1,9,X⟩,Y .u8 p.skin),(⟨w.heap.size,1,X⟩,O (some ⟨k,o,X⟩) n sc),(⟨k,o+f*12,X⟩,.string q.name),(⟨k,o+f*12+1,X⟩,O aq au ar),(⟨k,o+f*12+2,X⟩,Y Z q.depth),(⟨k,o+f*12+3,X⟩,Y Z q.density),(⟨k,o+f*12+4,X⟩,Y Z q.gx),(⟨k,o+f*12+5,X⟩,Y Z q.gz),(⟨k,o+f*12+6,X⟩,Y Z q.way),(⟨k,o+f*12+7,X⟩,Y Z q.ax),(⟨k,o+f*12+8,X⟩,Y Z q.az),(⟨k,o+f*12+9,X⟩,Y .u8 q.skin)]) kM cA (fun ak=>?_);refine sN 0 ?_
   iterate 15
    refine tkn ?_
   refine oN ?_;refine cl1 (i:=15) fun K hK=>?_
   go_simp
   (with_reducible refine cM (aj.out _) ?_)
   rintro e w3 ⟨rfl,T⟩
   skip
   go_wp2_with fail
   refine kO hK (cE ak T) (fun ak=>?_);clear hK K;refine sN 16 ?_
   iterate 3
    refine tkn ?_
   refine oN ?_;refine wpAnyH_done kM ?_ _;go_wp2;go_meet;exact⟨rfl,((((eR w).alloc _).alloc _).alloc _).drew.trans T,T.heapS (((((eR _).alloc _).alloc _).drew).heapS (aN w _)),T.heapS ((((eR _).alloc _).drew).heapS (qhA _ _ _ sM)),T.heapS (((eR _).drew).heapS (qhA _ _ _ sM))⟩
 case rest =>
  obtain⟨rfl,X3,K4,g,ac⟩:=hcut;obtain⟨W3,rfl⟩:∃W,W=wc:=⟨_,rfl⟩;have z3:w.heap.size+1+1<W3.heap.size:=zaa ac;have ca:w.heap.size<W3.heap.size:=oM
  have cb:w.heap.size+1<W3.heap.size:=oM
  clear L aw aK aL aM aO aP aQ aR aS aT ay aA;have s0:=qcB K4 (i:=0) (u:=O ga gn gc) rfl;have s1:=qcB K4 (i:=1) (u:=O (some ⟨k,o,X⟩) n sc) rfl;have bG:=qcB ac (i:=10) (u:=O an ap ao) rfl;have k0:=qcB g (i:=0) (u:=Y Z 0) rfl;have k1:=qcB g (i:=1) (u:=O X 0 0) rfl;have k2:=qcB g (i:=2) (u:=V false) rfl;have k3:=qcB g (i:=3) (u:=O X 0 0) rfl;have k4:=qcB g (i:=4) (u:=O X 0 0) rfl;have k5:=qcB g (i:=5) (u:=V false) rfl;have k6:=qcB g (i:=6) (u:=O X 0 0) rfl;have k7:=qcB g (i:=7) (u:=O X 0 0) rfl;have k8:=qcB g (i:=8) (u:=V false) rfl;have k9:=qcB g (i:=9) (u:=O X 0 0) rfl;have a4:=qcB g (i:=10) (u:=O X 0 0) rfl;have a5:=qcB g (i:=11) (u:=V false) rfl;have a6:=qcB g (i:=12) (u:=O X 0 0) rfl;have a7:=qcB g (i:=13) (u:=Y Z 0) rfl;have a8:=qcB g (i:=14) (u:=Y Z 0) rfl;have a9:=qcB g (i:=15) (u:=Y Z 0) rfl;have ba:=qcB g (i:=16) (u:=Y Z 0) rfl;have kf:=qfB g;have aI:=hd9 g;have bo:=hd9 ac;have ab:=hd9 X3;clear K4 g ac X3;have hd:decide (sp.lo<sp.hi)=true:=by simp[al]
  rw[if_pos al]at HR;rw[aD]at aa HR
  go_wp2_with(first|(go_at_call 76;(with_reducible refine(aJ.out _ ab.out).mono ?_);rintro e w4 ⟨vt,rfl,am,z⟩;obtain⟨ta,tn,tc,rfl⟩:=form3 am;obtain⟨bx,bB⟩:=z.cells;(have z4:=z.size);(try simp only[wZ,qdZ]at z4);(have cc:w.heap.size<w4.heap.size:=oM);(have cf:w.heap.size+1<w4.heap.size:=oM);(have ch:w.heap.size+1+1<w4.heap.size:=oM);(have ck:w.heap.size<w4.heap.size+1:=oM);(have cn:w.heap.size+1<w4.heap.size+1:=oM);(have cp:w.heap.size+1+1<w4.heap.size+1:=oM))|(go_at_call 58;(with_reducible refine(av.out _ (ab.out.trans z) _ am).mono ?_);rintro e w5 ⟨rfl,D⟩;unfold spc;(try rw[hd]);obtain⟨bz,bC⟩:=D.cells;(have z5:=D.size);(try simp only[wZ,qdZ]at z5);(have cd:w.heap.size<w5.heap.size:=oM);(have cg:w.heap.size+1<w5.heap.size:=oM);(have ci:w.heap.size+1+1<w5.heap.size:=oM);(have cl:w.heap.size<w5.heap.size+1:=oM);(have co:w.heap.size+1<w5.heap.size+1:=oM);(have cq:w.heap.size+1+1<w5.heap.size+1:=oM))|(go_at_call 143;(with_reducible refine(aa.out _ (((ab.out.trans z).trans D).alloc _) _ ((am.ext' D).ext' ((eR _).alloc _))).mono ?_);rintro e w6 ⟨ae,r1,r2,a2,a3,rfl⟩;obtain⟨bZ,b5,b3,b7,b2,b6,b4,rfl⟩:=a2.form;obtain⟨bH,bL,bJ,bY,bI,bM,bK,rfl⟩:=a3.form;obtain⟨bA,bD⟩:=ae.cells;(have z6:=ae.size);(try simp only[wZ,qdZ]at z6);(have ce:w.heap.size<w6.heap.size:=oM);(have bk:w.heap.size+1<w6.heap.size:=oM);(have cj:w.heap.size+1+1<w6.heap.size:=oM);(have cm:w.heap.size<w6.heap.size+1:=oM);(have bm:w.heap.size+1<w6.heap.size+1:=oM);(have cr:w.heap.size+1+1<w6.heap.size+1:=oM)))
  have j:=ae.heapS (((eR _).alloc _).heapS (D.heapS (z.heapS aI.out)));have u0:=qcB j (i:=0) (u:=Y Z 0) rfl;have u1:=qcB j (i:=1) (u:=O X 0 0) rfl;have u2:=qcB j (i:=2) (u:=V false) rfl;have u3:=qcB j (i:=3) (u:=O X 0 0) rfl;have u4:=qcB j (i:=4) (u:=O X 0 0) rfl;have u5:=qcB j (i:=5) (u:=V false) rfl;have u6:=qcB j (i:=6) (u:=O X 0 0) rfl;have u7:=qcB j (i:=7) (u:=O X 0 0) rfl;have u8:=qcB j (i:=8) (u:=V false) rfl;have u9:=qcB j (i:=9) (u:=O X 0 0) rfl;have bc:=qcB j (i:=10) (u:=O X 0 0) rfl;have be:=qcB j (i:=11) (u:=V false) rfl;have bf:=qcB j (i:=12) (u:=O X 0 0) rfl;have bg:=qcB j (i:=13) (u:=Y Z 0) rfl;have bh:=qcB j (i:=14) (u:=Y Z 0) rfl;have bi:=qcB j (i:=15) (u:=Y Z 0) rfl;have bj:=qcB j (i:=16) (u:=Y Z 0) rfl;have uf:=qfB j;have zk:=zaa j;have EZ:Ext w w6:=(((ab.out.trans z).trans D).alloc _).trans ae;clear k0 k1 k2 k3 k4 k5 k6 k7 k8 k9 a4 a5 a6 a7 a8 a9 ba kf j;refine bR (v:=.tuple #[.agg be0,V false]) (by unfold be0;simp[results,Tryz.results72,go_sem,zk,uf,bm,bk,u0,u1,u2,u3,u4,u5,u6,u7,u8,u9,bc,be,bf,bg,bh,bi,bj]) rfl ?_;rw[<-HR.out];exact⟨((zdU EZ (Nat.le_succ _) _ _ _ _ _ _ _ _ _ _ _ _ _ _ _ _ _).alloc _).alloc _,.inl ⟨rfl,rfl⟩⟩
end
end Go.Proofs.YtjnjpagegkcgfaaGreatDoor.Cop
