/- Part 21: contracts of what the law calls. -/
import Derived.Test.YtodpfeaihohpjaaGreatDoorCopA19
set_option maxRecDepth 1000000
set_option maxHeartbeats 16000000
set_option linter.unusedSimpArgs false
set_option linter.unusedVariables false
open Go.Value renaming slice→O,int→Y,bool→V,agg→N
open Go.IntKind renaming i64→Z
open Option renaming none→X,some→I
open Go renaming Value→J,World→M
namespace Go.Proofs.YtodpfeaihohpjaaGreatDoor.Cop
section
open Go.RowKit Go.Shelf
attribute [local go_sem] Oper.semAt_some
theorem zgv {q:Pl} {s vl vu:J} {m:Nat} {u:J} (h:(plc q s)[m]?=I u):(lac q s vl vu)[m]?=I u:=by
 have hm:=(Array.getElem?_eq_some_iff.1 h).1;unfold plc at h hm;unfold lac
 match m,hm with
 | 0,_|1,_|2,_|3,_|4,_|5,_|6,_|7,_|8,_|9,_=>simpa using h
 | m+10,hm=>exact absurd hm (by simp only [List.size_toArray,List.length_cons,List.length_nil];omega)
def BdH (w:M) (vg vs:J) (c10:Array J) (t40:J) (W:M):Prop:=
 t40=V false∧Ext w W∧W.heap[w.heap.size]?=I (.cells #[vg,vs] 108 (0,0))∧W.heap[w.heap.size+1]?=I (.cells be0 69 (0,0))∧W.heap[w.heap.size+1+1]?=I (.cells c10 101 (0,0))
theorem zkt (w:M) (vg vs:J) (ps:List Pl) (a:Nat) (p:Pl) (b pin:Int) (tp:List (Int×Int)) (hg:∃a n c,vg=O a n c) (hs:IsLas w vs ps) (ha:ps[a]?=I p) (hcase:b<0∨∃(jb:Nat) (q:Pl),b=(jb:Int)∧ps[jb]?=I q∧meetB p q=true∧(a:Int)≠b) (hlo:LnOk (lowP2 p)) (hT:LnOk tp) (hup:LnUp tp)
  (htop:∀W,Ext w W→Calls Tryz.prog 94 #[N #[vg,vs],Y Z b] W fun e w'=>∃v,e = .returned v∧IsPts w' v tp∧Ext W w') (hp:Bd 104000 pin) (hlt:¬(btw (lowP2 p) tp).lo<(btw (lowP2 p) tp).hi) :
  Calls Tryz.prog 58 #[N #[vg,vs],Y Z a,Y Z b,Y Z pin] w (RetBe w (bedO p tp b pin)):=by
 have hne:(a:Int)≠b:=by
  rcases hcase with h|⟨jb,q,_,_,_,h⟩
  ·omega
  ·exact h
 obtain⟨ga,gn,gc,rfl⟩:=hg;obtain⟨sa,n,sc,rfl⟩:=form3 hs;have hl:=hs.len;have hle:=hs.le;obtain⟨b0,o,s,vl,vu,rfl,hb0,d1,d2,d3,hc⟩:=hs.at' ha;have HBt:=hd9 (fun(W:M) (hW:Ext w W) (vt:J) (h:IsPts W vt tp)=>zbi W vl vt (lowP2 p) tp (d2.ext' hW) h (List.length_pos_iff.2 hlo.1) (List.length_pos_iff.2 hT.1));have HRe:=hd9 (fun(W:M) (hW:Ext w W) (vt:J) (h:IsPts W vt tp)=>zdZ W vl vt (btw (lowP2 p) tp) pin (d2.ext' hW) h (zbQ hlo hT) hp);have HEnd:=hd9 (fun(W:M) (hW:Ext w W) (vx:J) (x:Rat) (hx:IsR W vx x) (hb:Rb 1000 x) (bl:Nat) (hbl:W.heap[bl]?=I (.cells (lac p s vl vu) 101 (0,0)))=>zcN W vx x p bl s vl vu hx hb hbl (d2.ext' hW) hlo);have HSl:=hd9 (fun(W:M) (vt vx vr:J) (x rt:Rat) (h:IsPts W vt tp) (hx:IsR W vx x) (hb:Rb 1000 x) (hr:IsR W vr rt) (hbr:Rb 1000 rt)=>zeb W vt vx vr tp x rt h hT hup hx hb hr hbr);have HTp:=hd9 htop;obtain⟨R,hR⟩:=gX (RetBe w (bedO p tp b pin));rw [hR];have HR:=hd9 hR;unfold bedO at HR;obtain⟨sp,hsp⟩:=gX (btw (lowP2 p) tp);rw [hsp]at HBt HRe HR;have hok:SpOk sp:=hsp▸zbQ hlo hT
 have hob:∀o,reachP sp pin=I o→Rb 300 o.1∧Rb 300 o.2:=fun o ho=>by
  unfold reachP at ho
  split at ho
  ·cases ho
  ·cases ho
   have h1:Rb 300 (leastR sp).1:=(zak hok _ (by unfold leastR;exact(zax (gapR sp) (zaD sp)).1)).up (by decide);exact Rb.reach_n (o:=((leastR sp).1,(leastR sp).1)) ⟨h1,h1⟩ (zak hok) (fun q hq=>Rb.pin_g (zak hok q hq) hok hp) _ (nE _)
 have Hob:=hd9 hob;unfold spc at HRe;obtain⟨sa1,sn1,sc1,rfl⟩:=form3 d1;obtain⟨la1,ln1,lc1,rfl⟩:=form3 d2;obtain⟨ua1,un1,uc1,rfl⟩:=form3 d3;have hi:=(lS.1 ha).1;have p1:(0:Int)≤(a:Int):=by omega
 have p2:(a:Int)<(n:Int):=by omega
 have p3:a<n:=by omega
 have cc0:=hc 0 (.string p.name) rfl;have cc1:=hc 1 (O sa1 sn1 sc1) rfl;have cc2:=hc 2 (Y Z p.depth) rfl;have cc3:=hc 3 (Y Z p.density) rfl;have cc4:=hc 4 (Y Z p.gx) rfl;have cc5:=hc 5 (Y Z p.gz) rfl;have cc6:=hc 6 (Y Z p.way) rfl;have cc7:=hc 7 (Y Z p.ax) rfl;have cc8:=hc 8 (Y Z p.az) rfl;have cc9:=hc 9 (Y .u8 p.skin) rfl;have cc10:=hc 10 (O la1 ln1 lc1) rfl;have cc11:=hc 11 (O ua1 un1 uc1) rfl;simp only [Nat.add_zero]at cc0;have hnb:((a:Int)==b)=false:=by simpa using hne
 rw [hsp]at hlt
 have Hcase:=hd9 (show b<0∨∃(jb:Nat) (q:Pl) (v2:J),b=(jb:Int)∧jb<n∧meetB p q=true∧(∃a n c,v2=O a n c)∧∀(m:Nat) u,(plc q v2)[m]?=I u→w.cell? ⟨b0,o+jb*12+m,X⟩=I u from by
  rcases hcase with h|⟨jb,q,h1,hq,h3,h4⟩
  ·exact .inl h
  ·obtain⟨b1,o1,s',vl',vu',e9,hb1,d1',d2',d3',hc'⟩:=hs.at' hq
   cases e9
   have hiq:=(lS.1 hq).1;exact .inr ⟨jb,q,s',h1,by omega,h3,form3 d1',fun m u hu=>hc' m u (zgv hu)⟩)
 have hbz1:b0<w.heap.size+1:=by omega
 have hbz2:b0<w.heap.size+1+1:=by omega
 clear hcase hs ha hc d1 d2 d3 hl hle hi htop hR hob hsp hok hT hup hlo hp;go_enter Tryz.func58,Tryz.ntmps58
 go_upto_region 2 with fail
 go_cut [40] (BdH w (O ga gn gc) (O (I ⟨b0,o,X⟩) n sc) (lac p (O sa1 sn1 sc1) (O la1 ln1 lc1) (O ua1 un1 uc1)))
 case first =>
  rcases Hcase.out with hb|⟨jb,q,v2,hbj,r4,hmt,⟨sa2,sn2,sc2,rfl⟩,hc'⟩
  ·have hb9:¬0≤b:=by omega
   have hb8:decide ((0:Int)≤b)=false:=by simp;omega
   refine wp_region_held_drew (S:=CellL []) (by kernel_rfl) trivial (fun h9H=>?_);refine sN 0 ?_
   iterate 7
    refine tkn ?_
   iterate 10
    refine tkgn ?_
   iterate 2
    refine tkn ?_
   refine oN ?_;refine wpAnyH_done (by kernel_rfl) ?_ _;go_wp2;go_meet;exact⟨rfl,((((eR w).alloc _).alloc _).alloc _).drew,((((eR _).alloc _).alloc _).drew).heapS (aN w _),(((eR _).alloc _).drew).heapS (qhA _ _ _ (by simp)),((eR _).drew).heapS (qhA _ _ _ (by simp))⟩
  ·subst hbj
   have hb9:(0:Int)≤(jb:Int):=by omega
   have hb8:decide ((0:Int)≤(jb:Int))=true:=by simp
   have r2:(jb:Int)<(n:Int):=by omega
   have qq0:=hc' 0 (.string q.name) rfl;have qq1:=hc' 1 (O sa2 sn2 sc2) rfl;have qq2:=hc' 2 (Y Z q.depth) rfl;have qq3:=hc' 3 (Y Z q.density) rfl;have qq4:=hc' 4 (Y Z q.gx) rfl;have qq5:=hc' 5 (Y Z q.gz) rfl;have qq6:=hc' 6 (Y Z q.way) rfl;have qq7:=hc' 7 (Y Z q.ax) rfl;have qq8:=hc' 8 (Y Z q.az) rfl;have qq9:=hc' 9 (Y .u8 q.skin) rfl;simp only [Nat.add_zero]at qq0;have HMt:=hd9 (fun(W:M)=>zb9 W p q (O sa1 sn1 sc1) (O sa2 sn2 sc2) ⟨_,_,_,rfl⟩ ⟨_,_,_,rfl⟩);rw [hmt]at HMt;unfold plc at HMt;clear hc' hmt;refine wp_region_held_drew (S:=CellL [(⟨w.heap.size+1+1,0,X⟩,.string p.name),(⟨w.heap.size+1+1,1,X⟩,O sa1 sn1 sc1),(⟨w.heap.size+1+1,2,X⟩,Y Z p.depth),(⟨w.heap.size+1+1,3,X⟩,Y Z p.density),(⟨w.heap.size+1+1,4,X⟩,Y Z p.gx),(⟨w.heap.size+1+1,5,X⟩,Y Z p.gz),(⟨w.heap.size+1+1,6,X⟩,Y Z p.way),(⟨w.heap.size+1+1,7,X⟩,Y Z p.ax),(⟨w.heap.size+1+1,8,X⟩,Y Z p.az),(⟨w.heap.size+1+1,9,X⟩,Y .u8 p.skin),(⟨w.heap.size,1,X⟩,O (I ⟨b0,o,X⟩) n sc),(⟨b0,o+jb*12,X⟩,.string q.name),(⟨b0,o+jb*12+1,X⟩,O sa2 sn2 sc2),(⟨b0,o+jb*12+2,X⟩,Y Z q.depth),(⟨b0,o+jb*12+3,X⟩,Y Z q.density),(⟨b0,o+jb*12+4,X⟩,Y Z q.gx),(⟨b0,o+jb*12+5,X⟩,Y Z q.gz),(⟨b0,o+jb*12+6,X⟩,Y Z q.way),(⟨b0,o+jb*12+7,X⟩,Y Z q.ax),(⟨b0,o+jb*12+8,X⟩,Y Z q.az),(⟨b0,o+jb*12+9,X⟩,Y .u8 q.skin)]) (by kernel_rfl) cA (fun h9H=>?_);refine sN 0 ?_
   iterate 15
    refine tkn ?_
   refine oN ?_;refine cl1 (i:=15) fun K hK=>?_
   go_simp
   (with_reducible refine cM (HMt.out _) ?_)
   rintro e w3 ⟨rfl,hx3⟩
   skip
   go_wp2_with fail
   refine kO hK (cE h9H hx3) (fun h9H=>?_);clear hK K;refine sN 16 ?_
   iterate 3
    refine tkn ?_
   refine oN ?_;refine wpAnyH_done (by kernel_rfl) ?_ _;go_wp2;go_meet;exact⟨rfl,((((eR w).alloc _).alloc _).alloc _).drew.trans hx3,hx3.heapS (((((eR _).alloc _).alloc _).drew).heapS (aN w _)),hx3.heapS ((((eR _).alloc _).drew).heapS (qhA _ _ _ (by simp))),hx3.heapS (((eR _).drew).heapS (qhA _ _ _ (by simp)))⟩
 case rest =>
  obtain⟨rfl,X3,K4,K8,K10⟩:=hcut;obtain⟨W3,rfl⟩:∃W,W=wc:=⟨_,rfl⟩;have z3:w.heap.size+1+1<W3.heap.size:=zaa K10;have z3a:w.heap.size<W3.heap.size:=by omega
  have z3b:w.heap.size+1<W3.heap.size:=by omega
  clear Hcase cc0 cc1 cc2 cc3 cc4 cc5 cc6 cc7 cc8 cc9 cc10 cc11;have s0:=qcB K4 (i:=0) (u:=O ga gn gc) rfl;have s1:=qcB K4 (i:=1) (u:=O (I ⟨b0,o,X⟩) n sc) rfl;have l10:=qcB K10 (i:=10) (u:=O la1 ln1 lc1) rfl;have k0:=qcB K8 (i:=0) (u:=Y Z 0) rfl;have k1:=qcB K8 (i:=1) (u:=O X 0 0) rfl;have k2:=qcB K8 (i:=2) (u:=V false) rfl;have k3:=qcB K8 (i:=3) (u:=O X 0 0) rfl;have k4:=qcB K8 (i:=4) (u:=O X 0 0) rfl;have k5:=qcB K8 (i:=5) (u:=V false) rfl;have k6:=qcB K8 (i:=6) (u:=O X 0 0) rfl;have k7:=qcB K8 (i:=7) (u:=O X 0 0) rfl;have k8:=qcB K8 (i:=8) (u:=V false) rfl;have k9:=qcB K8 (i:=9) (u:=O X 0 0) rfl;have k10:=qcB K8 (i:=10) (u:=O X 0 0) rfl;have k11:=qcB K8 (i:=11) (u:=V false) rfl;have k12:=qcB K8 (i:=12) (u:=O X 0 0) rfl;have k13:=qcB K8 (i:=13) (u:=Y Z 0) rfl;have k14:=qcB K8 (i:=14) (u:=Y Z 0) rfl;have k15:=qcB K8 (i:=15) (u:=Y Z 0) rfl;have k16:=qcB K8 (i:=16) (u:=Y Z 0) rfl;have kf:=qfB K8;have HK8:=hd9 K8;have HK10:=hd9 K10;have HX3:=hd9 X3;clear K4 K8 K10 X3;have hd:decide (sp.lo<sp.hi)=false:=by simp [hlt]
  rw [if_neg (by omega)]at HR
  go_wp2_with(first|(go_at_call 94;(with_reducible refine(HTp.out _ HX3.out).mono ?_);rintro e w4 ⟨vt,rfl,hvt,hx4⟩;obtain⟨ta,tn,tc,rfl⟩:=form3 hvt;obtain⟨hc4,hf4⟩:=hx4.cells;(have z4:=hx4.size);(try simp only [wZ,qdZ]at z4);(have za4:w.heap.size<w4.heap.size:=(by omega));(have zb4:w.heap.size+1<w4.heap.size:=(by omega));(have zc4:w.heap.size+1+1<w4.heap.size:=(by omega));(have zd4:w.heap.size<w4.heap.size+1:=(by omega));(have ze4:w.heap.size+1<w4.heap.size+1:=(by omega));(have zf4:w.heap.size+1+1<w4.heap.size+1:=(by omega)))|(go_at_call 53;(with_reducible refine(HBt.out _ (HX3.out.trans hx4) _ hvt).mono ?_);rintro e w5 ⟨rfl,hx5⟩;unfold spc;(try rw [hd]);obtain⟨hc5,hf5⟩:=hx5.cells;(have z5:=hx5.size);(try simp only [wZ,qdZ]at z5);(have za5:w.heap.size<w5.heap.size:=(by omega));(have zb5:w.heap.size+1<w5.heap.size:=(by omega));(have zc5:w.heap.size+1+1<w5.heap.size:=(by omega));(have zd5:w.heap.size<w5.heap.size+1:=(by omega));(have ze5:w.heap.size+1<w5.heap.size+1:=(by omega));(have zf5:w.heap.size+1+1<w5.heap.size+1:=(by omega))))
  have KZ:=hx5.heapS (hx4.heapS HK8.out);have u0:=qcB KZ (i:=0) (u:=Y Z 0) rfl;have u1:=qcB KZ (i:=1) (u:=O X 0 0) rfl;have u2:=qcB KZ (i:=2) (u:=V false) rfl;have u3:=qcB KZ (i:=3) (u:=O X 0 0) rfl;have u4:=qcB KZ (i:=4) (u:=O X 0 0) rfl;have u5:=qcB KZ (i:=5) (u:=V false) rfl;have u6:=qcB KZ (i:=6) (u:=O X 0 0) rfl;have u7:=qcB KZ (i:=7) (u:=O X 0 0) rfl;have u8:=qcB KZ (i:=8) (u:=V false) rfl;have u9:=qcB KZ (i:=9) (u:=O X 0 0) rfl;have u10:=qcB KZ (i:=10) (u:=O X 0 0) rfl;have u11:=qcB KZ (i:=11) (u:=V false) rfl;have u12:=qcB KZ (i:=12) (u:=O X 0 0) rfl;have u13:=qcB KZ (i:=13) (u:=Y Z 0) rfl;have u14:=qcB KZ (i:=14) (u:=Y Z 0) rfl;have u15:=qcB KZ (i:=15) (u:=Y Z 0) rfl;have u16:=qcB KZ (i:=16) (u:=Y Z 0) rfl;have uf:=qfB KZ;have zk:=zaa KZ;have EZ:Ext w w5:=(HX3.out.trans hx4).trans hx5;clear k0 k1 k2 k3 k4 k5 k6 k7 k8 k9 k10 k11 k12 k13 k14 k15 k16 kf KZ;refine bR (v:=.tuple #[N be0,V false]) (by unfold be0;simp [results,Tryz.results58,go_sem,zk,uf,zb5,u0,u1,u2,u3,u4,u5,u6,u7,u8,u9,u10,u11,u12,u13,u14,u15,u16]) rfl ?_;rw [←HR.out];exact⟨(zdX EZ (Nat.le_succ _) _ _ _ _ _ _ _ _ _ _ _ _ _ _ _ _ _).alloc _,.inl ⟨rfl,rfl⟩⟩
theorem zks (w:M) (vg vs:J) (ps:List Pl) (a:Nat) (p:Pl) (b pin:Int) (tp:List (Int×Int)) (hg:∃a n c,vg=O a n c) (hs:IsLas w vs ps) (ha:ps[a]?=I p) (hcase:b<0∨∃(jb:Nat) (q:Pl),b=(jb:Int)∧ps[jb]?=I q∧meetB p q=true∧(a:Int)≠b) (hlo:LnOk (lowP2 p)) (hT:LnOk tp) (hup:LnUp tp)
  (htop:∀W,Ext w W→Calls Tryz.prog 94 #[N #[vg,vs],Y Z b] W fun e w'=>∃v,e = .returned v∧IsPts w' v tp∧Ext W w') (hp:Bd 104000 pin) (hlt:(btw (lowP2 p) tp).lo<(btw (lowP2 p) tp).hi) (hro:reachP (btw (lowP2 p) tp) pin=X) :
  Calls Tryz.prog 58 #[N #[vg,vs],Y Z a,Y Z b,Y Z pin] w (RetBe w (bedO p tp b pin)):=by
 have hne:(a:Int)≠b:=by
  rcases hcase with h|⟨jb,q,_,_,_,h⟩
  ·omega
  ·exact h
 obtain⟨ga,gn,gc,rfl⟩:=hg;obtain⟨sa,n,sc,rfl⟩:=form3 hs;have hl:=hs.len;have hle:=hs.le;obtain⟨b0,o,s,vl,vu,rfl,hb0,d1,d2,d3,hc⟩:=hs.at' ha;have HBt:=hd9 (fun(W:M) (hW:Ext w W) (vt:J) (h:IsPts W vt tp)=>zbi W vl vt (lowP2 p) tp (d2.ext' hW) h (List.length_pos_iff.2 hlo.1) (List.length_pos_iff.2 hT.1));have HRe:=hd9 (fun(W:M) (hW:Ext w W) (vt:J) (h:IsPts W vt tp)=>zdZ W vl vt (btw (lowP2 p) tp) pin (d2.ext' hW) h (zbQ hlo hT) hp);have HEnd:=hd9 (fun(W:M) (hW:Ext w W) (vx:J) (x:Rat) (hx:IsR W vx x) (hb:Rb 1000 x) (bl:Nat) (hbl:W.heap[bl]?=I (.cells (lac p s vl vu) 101 (0,0)))=>zcN W vx x p bl s vl vu hx hb hbl (d2.ext' hW) hlo);have HSl:=hd9 (fun(W:M) (vt vx vr:J) (x rt:Rat) (h:IsPts W vt tp) (hx:IsR W vx x) (hb:Rb 1000 x) (hr:IsR W vr rt) (hbr:Rb 1000 rt)=>zeb W vt vx vr tp x rt h hT hup hx hb hr hbr);have HTp:=hd9 htop;obtain⟨R,hR⟩:=gX (RetBe w (bedO p tp b pin));rw [hR];have HR:=hd9 hR;unfold bedO at HR;obtain⟨sp,hsp⟩:=gX (btw (lowP2 p) tp);rw [hsp]at HBt HRe HR;have hok:SpOk sp:=hsp▸zbQ hlo hT
 have hob:∀o,reachP sp pin=I o→Rb 300 o.1∧Rb 300 o.2:=fun o ho=>by
  unfold reachP at ho
  split at ho
  ·cases ho
  ·cases ho
   have h1:Rb 300 (leastR sp).1:=(zak hok _ (by unfold leastR;exact(zax (gapR sp) (zaD sp)).1)).up (by decide);exact Rb.reach_n (o:=((leastR sp).1,(leastR sp).1)) ⟨h1,h1⟩ (zak hok) (fun q hq=>Rb.pin_g (zak hok q hq) hok hp) _ (nE _)
 have Hob:=hd9 hob;unfold spc at HRe;obtain⟨sa1,sn1,sc1,rfl⟩:=form3 d1;obtain⟨la1,ln1,lc1,rfl⟩:=form3 d2;obtain⟨ua1,un1,uc1,rfl⟩:=form3 d3;have hi:=(lS.1 ha).1;have p1:(0:Int)≤(a:Int):=by omega
 have p2:(a:Int)<(n:Int):=by omega
 have p3:a<n:=by omega
 have cc0:=hc 0 (.string p.name) rfl;have cc1:=hc 1 (O sa1 sn1 sc1) rfl;have cc2:=hc 2 (Y Z p.depth) rfl;have cc3:=hc 3 (Y Z p.density) rfl;have cc4:=hc 4 (Y Z p.gx) rfl;have cc5:=hc 5 (Y Z p.gz) rfl;have cc6:=hc 6 (Y Z p.way) rfl;have cc7:=hc 7 (Y Z p.ax) rfl;have cc8:=hc 8 (Y Z p.az) rfl;have cc9:=hc 9 (Y .u8 p.skin) rfl;have cc10:=hc 10 (O la1 ln1 lc1) rfl;have cc11:=hc 11 (O ua1 un1 uc1) rfl;simp only [Nat.add_zero]at cc0;have hnb:((a:Int)==b)=false:=by simpa using hne
 rw [hsp]at hlt hro
 have Hcase:=hd9 (show b<0∨∃(jb:Nat) (q:Pl) (v2:J),b=(jb:Int)∧jb<n∧meetB p q=true∧(∃a n c,v2=O a n c)∧∀(m:Nat) u,(plc q v2)[m]?=I u→w.cell? ⟨b0,o+jb*12+m,X⟩=I u from by
  rcases hcase with h|⟨jb,q,h1,hq,h3,h4⟩
  ·exact .inl h
  ·obtain⟨b1,o1,s',vl',vu',e9,hb1,d1',d2',d3',hc'⟩:=hs.at' hq
   cases e9
   have hiq:=(lS.1 hq).1;exact .inr ⟨jb,q,s',h1,by omega,h3,form3 d1',fun m u hu=>hc' m u (zgv hu)⟩)
 have hbz1:b0<w.heap.size+1:=by omega
 have hbz2:b0<w.heap.size+1+1:=by omega
 clear hcase hs ha hc d1 d2 d3 hl hle hi htop hR hob hsp hok hT hup hlo hp;go_enter Tryz.func58,Tryz.ntmps58
 go_upto_region 2 with fail
 go_cut [40] (BdH w (O ga gn gc) (O (I ⟨b0,o,X⟩) n sc) (lac p (O sa1 sn1 sc1) (O la1 ln1 lc1) (O ua1 un1 uc1)))
 case first =>
  rcases Hcase.out with hb|⟨jb,q,v2,hbj,r4,hmt,⟨sa2,sn2,sc2,rfl⟩,hc'⟩
  ·have hb9:¬0≤b:=by omega
   have hb8:decide ((0:Int)≤b)=false:=by simp;omega
   refine wp_region_held_drew (S:=CellL []) (by kernel_rfl) trivial (fun h9H=>?_);refine sN 0 ?_
   iterate 7
    refine tkn ?_
   iterate 10
    refine tkgn ?_
   iterate 2
    refine tkn ?_
   refine oN ?_;refine wpAnyH_done (by kernel_rfl) ?_ _;go_wp2;go_meet;exact⟨rfl,((((eR w).alloc _).alloc _).alloc _).drew,((((eR _).alloc _).alloc _).drew).heapS (aN w _),(((eR _).alloc _).drew).heapS (qhA _ _ _ (by simp)),((eR _).drew).heapS (qhA _ _ _ (by simp))⟩
  ·subst hbj
   have hb9:(0:Int)≤(jb:Int):=by omega
   have hb8:decide ((0:Int)≤(jb:Int))=true:=by simp
   have r2:(jb:Int)<(n:Int):=by omega
   have qq0:=hc' 0 (.string q.name) rfl;have qq1:=hc' 1 (O sa2 sn2 sc2) rfl;have qq2:=hc' 2 (Y Z q.depth) rfl;have qq3:=hc' 3 (Y Z q.density) rfl;have qq4:=hc' 4 (Y Z q.gx) rfl;have qq5:=hc' 5 (Y Z q.gz) rfl;have qq6:=hc' 6 (Y Z q.way) rfl;have qq7:=hc' 7 (Y Z q.ax) rfl;have qq8:=hc' 8 (Y Z q.az) rfl;have qq9:=hc' 9 (Y .u8 q.skin) rfl;simp only [Nat.add_zero]at qq0;have HMt:=hd9 (fun(W:M)=>zb9 W p q (O sa1 sn1 sc1) (O sa2 sn2 sc2) ⟨_,_,_,rfl⟩ ⟨_,_,_,rfl⟩);rw [hmt]at HMt;unfold plc at HMt;clear hc' hmt;refine wp_region_held_drew (S:=CellL [(⟨w.heap.size+1+1,0,X⟩,.string p.name),(⟨w.heap.size+1+1,1,X⟩,O sa1 sn1 sc1),(⟨w.heap.size+1+1,2,X⟩,Y Z p.depth),(⟨w.heap.size+1+1,3,X⟩,Y Z p.density),(⟨w.heap.size+1+1,4,X⟩,Y Z p.gx),(⟨w.heap.size+1+1,5,X⟩,Y Z p.gz),(⟨w.heap.size+1+1,6,X⟩,Y Z p.way),(⟨w.heap.size+1+1,7,X⟩,Y Z p.ax),(⟨w.heap.size+1+1,8,X⟩,Y Z p.az),(⟨w.heap.size+1+1,9,X⟩,Y .u8 p.skin),(⟨w.heap.size,1,X⟩,O (I ⟨b0,o,X⟩) n sc),(⟨b0,o+jb*12,X⟩,.string q.name),(⟨b0,o+jb*12+1,X⟩,O sa2 sn2 sc2),(⟨b0,o+jb*12+2,X⟩,Y Z q.depth),(⟨b0,o+jb*12+3,X⟩,Y Z q.density),(⟨b0,o+jb*12+4,X⟩,Y Z q.gx),(⟨b0,o+jb*12+5,X⟩,Y Z q.gz),(⟨b0,o+jb*12+6,X⟩,Y Z q.way),(⟨b0,o+jb*12+7,X⟩,Y Z q.ax),(⟨b0,o+jb*12+8,X⟩,Y Z q.az),(⟨b0,o+jb*12+9,X⟩,Y .u8 q.skin)]) (by kernel_rfl) cA (fun h9H=>?_);refine sN 0 ?_
   iterate 15
    refine tkn ?_
   refine oN ?_;refine cl1 (i:=15) fun K hK=>?_
   go_simp
   (with_reducible refine cM (HMt.out _) ?_)
   rintro e w3 ⟨rfl,hx3⟩
   skip
   go_wp2_with fail
   refine kO hK (cE h9H hx3) (fun h9H=>?_);clear hK K;refine sN 16 ?_
   iterate 3
    refine tkn ?_
   refine oN ?_;refine wpAnyH_done (by kernel_rfl) ?_ _;go_wp2;go_meet;exact⟨rfl,((((eR w).alloc _).alloc _).alloc _).drew.trans hx3,hx3.heapS (((((eR _).alloc _).alloc _).drew).heapS (aN w _)),hx3.heapS ((((eR _).alloc _).drew).heapS (qhA _ _ _ (by simp))),hx3.heapS (((eR _).drew).heapS (qhA _ _ _ (by simp)))⟩
 case rest =>
  obtain⟨rfl,X3,K4,K8,K10⟩:=hcut;obtain⟨W3,rfl⟩:∃W,W=wc:=⟨_,rfl⟩;have z3:w.heap.size+1+1<W3.heap.size:=zaa K10;have z3a:w.heap.size<W3.heap.size:=by omega
  have z3b:w.heap.size+1<W3.heap.size:=by omega
  clear Hcase cc0 cc1 cc2 cc3 cc4 cc5 cc6 cc7 cc8 cc9 cc10 cc11;have s0:=qcB K4 (i:=0) (u:=O ga gn gc) rfl;have s1:=qcB K4 (i:=1) (u:=O (I ⟨b0,o,X⟩) n sc) rfl;have l10:=qcB K10 (i:=10) (u:=O la1 ln1 lc1) rfl;have k0:=qcB K8 (i:=0) (u:=Y Z 0) rfl;have k1:=qcB K8 (i:=1) (u:=O X 0 0) rfl;have k2:=qcB K8 (i:=2) (u:=V false) rfl;have k3:=qcB K8 (i:=3) (u:=O X 0 0) rfl;have k4:=qcB K8 (i:=4) (u:=O X 0 0) rfl;have k5:=qcB K8 (i:=5) (u:=V false) rfl;have k6:=qcB K8 (i:=6) (u:=O X 0 0) rfl;have k7:=qcB K8 (i:=7) (u:=O X 0 0) rfl;have k8:=qcB K8 (i:=8) (u:=V false) rfl;have k9:=qcB K8 (i:=9) (u:=O X 0 0) rfl;have k10:=qcB K8 (i:=10) (u:=O X 0 0) rfl;have k11:=qcB K8 (i:=11) (u:=V false) rfl;have k12:=qcB K8 (i:=12) (u:=O X 0 0) rfl;have k13:=qcB K8 (i:=13) (u:=Y Z 0) rfl;have k14:=qcB K8 (i:=14) (u:=Y Z 0) rfl;have k15:=qcB K8 (i:=15) (u:=Y Z 0) rfl;have k16:=qcB K8 (i:=16) (u:=Y Z 0) rfl;have kf:=qfB K8;have HK8:=hd9 K8;have HK10:=hd9 K10;have HX3:=hd9 X3;clear K4 K8 K10 X3;have hd:decide (sp.lo<sp.hi)=true:=by simp [hlt]
  rw [if_pos hlt]at HR;rw [hro]at HRe HR
  go_wp2_with(first|(go_at_call 94;(with_reducible refine(HTp.out _ HX3.out).mono ?_);rintro e w4 ⟨vt,rfl,hvt,hx4⟩;obtain⟨ta,tn,tc,rfl⟩:=form3 hvt;obtain⟨hc4,hf4⟩:=hx4.cells;(have z4:=hx4.size);(try simp only [wZ,qdZ]at z4);(have za4:w.heap.size<w4.heap.size:=(by omega));(have zb4:w.heap.size+1<w4.heap.size:=(by omega));(have zc4:w.heap.size+1+1<w4.heap.size:=(by omega));(have zd4:w.heap.size<w4.heap.size+1:=(by omega));(have ze4:w.heap.size+1<w4.heap.size+1:=(by omega));(have zf4:w.heap.size+1+1<w4.heap.size+1:=(by omega)))|(go_at_call 53;(with_reducible refine(HBt.out _ (HX3.out.trans hx4) _ hvt).mono ?_);rintro e w5 ⟨rfl,hx5⟩;unfold spc;(try rw [hd]);obtain⟨hc5,hf5⟩:=hx5.cells;(have z5:=hx5.size);(try simp only [wZ,qdZ]at z5);(have za5:w.heap.size<w5.heap.size:=(by omega));(have zb5:w.heap.size+1<w5.heap.size:=(by omega));(have zc5:w.heap.size+1+1<w5.heap.size:=(by omega));(have zd5:w.heap.size<w5.heap.size+1:=(by omega));(have ze5:w.heap.size+1<w5.heap.size+1:=(by omega));(have zf5:w.heap.size+1+1<w5.heap.size+1:=(by omega)))|(go_at_call 108;(with_reducible refine(HRe.out _ (((HX3.out.trans hx4).trans hx5).alloc _) _ ((hvt.ext' hx5).ext' ((eR _).alloc _))).mono ?_);rintro e w6 ⟨hx6,r1,r2,hr1,hr2,rfl⟩;obtain⟨ra1,rm1,rc1,rs1,ra2,rm2,rc2,rfl⟩:=hr1.form;obtain⟨qa1,qm1,qc1,qs1,qa2,qm2,qc2,rfl⟩:=hr2.form;obtain⟨hc6,hf6⟩:=hx6.cells;(have z6:=hx6.size);(try simp only [wZ,qdZ]at z6);(have za6:w.heap.size<w6.heap.size:=(by omega));(have zb6:w.heap.size+1<w6.heap.size:=(by omega));(have zc6:w.heap.size+1+1<w6.heap.size:=(by omega));(have zd6:w.heap.size<w6.heap.size+1:=(by omega));(have ze6:w.heap.size+1<w6.heap.size+1:=(by omega));(have zf6:w.heap.size+1+1<w6.heap.size+1:=(by omega))))
  have KZ:=hx6.heapS (((eR _).alloc _).heapS (hx5.heapS (hx4.heapS HK8.out)));have u0:=qcB KZ (i:=0) (u:=Y Z 0) rfl;have u1:=qcB KZ (i:=1) (u:=O X 0 0) rfl;have u2:=qcB KZ (i:=2) (u:=V false) rfl;have u3:=qcB KZ (i:=3) (u:=O X 0 0) rfl;have u4:=qcB KZ (i:=4) (u:=O X 0 0) rfl;have u5:=qcB KZ (i:=5) (u:=V false) rfl;have u6:=qcB KZ (i:=6) (u:=O X 0 0) rfl;have u7:=qcB KZ (i:=7) (u:=O X 0 0) rfl;have u8:=qcB KZ (i:=8) (u:=V false) rfl;have u9:=qcB KZ (i:=9) (u:=O X 0 0) rfl;have u10:=qcB KZ (i:=10) (u:=O X 0 0) rfl;have u11:=qcB KZ (i:=11) (u:=V false) rfl;have u12:=qcB KZ (i:=12) (u:=O X 0 0) rfl;have u13:=qcB KZ (i:=13) (u:=Y Z 0) rfl;have u14:=qcB KZ (i:=14) (u:=Y Z 0) rfl;have u15:=qcB KZ (i:=15) (u:=Y Z 0) rfl;have u16:=qcB KZ (i:=16) (u:=Y Z 0) rfl;have uf:=qfB KZ;have zk:=zaa KZ;have EZ:Ext w w6:=(((HX3.out.trans hx4).trans hx5).alloc _).trans hx6;clear k0 k1 k2 k3 k4 k5 k6 k7 k8 k9 k10 k11 k12 k13 k14 k15 k16 kf KZ;refine bR (v:=.tuple #[N be0,V false]) (by unfold be0;simp [results,Tryz.results58,go_sem,zk,uf,ze6,zb6,u0,u1,u2,u3,u4,u5,u6,u7,u8,u9,u10,u11,u12,u13,u14,u15,u16]) rfl ?_;rw [←HR.out];exact⟨((zdX EZ (Nat.le_succ _) _ _ _ _ _ _ _ _ _ _ _ _ _ _ _ _ _).alloc _).alloc _,.inl ⟨rfl,rfl⟩⟩
theorem zkv (w:M) (vg vs:J) (ps:List Pl) (a:Nat) (p:Pl) (b pin:Int) (tp:List (Int×Int)) (hg:∃a n c,vg=O a n c) (hs:IsLas w vs ps) (ha:ps[a]?=I p) (hcase:b<0∨∃(jb:Nat) (q:Pl),b=(jb:Int)∧ps[jb]?=I q∧meetB p q=true∧(a:Int)≠b) (hlo:LnOk (lowP2 p)) (hT:LnOk tp) (hup:LnUp tp)
  (htop:∀W,Ext w W→Calls Tryz.prog 94 #[N #[vg,vs],Y Z b] W fun e w'=>∃v,e = .returned v∧IsPts w' v tp∧Ext W w') (hp:Bd 104000 pin) (hlt:(btw (lowP2 p) tp).lo<(btw (lowP2 p) tp).hi) (ro:Rat×Rat) (hro:reachP (btw (lowP2 p) tp) pin=I ro) :
  Calls Tryz.prog 58 #[N #[vg,vs],Y Z a,Y Z b,Y Z pin] w (RetBe w (bedO p tp b pin)):=by
 have hne:(a:Int)≠b:=by
  rcases hcase with h|⟨jb,q,_,_,_,h⟩
  ·omega
  ·exact h
 obtain⟨ga,gn,gc,rfl⟩:=hg;obtain⟨sa,n,sc,rfl⟩:=form3 hs;have hl:=hs.len;have hle:=hs.le;obtain⟨b0,o,s,vl,vu,rfl,hb0,d1,d2,d3,hc⟩:=hs.at' ha;have HBt:=hd9 (fun(W:M) (hW:Ext w W) (vt:J) (h:IsPts W vt tp)=>zbi W vl vt (lowP2 p) tp (d2.ext' hW) h (List.length_pos_iff.2 hlo.1) (List.length_pos_iff.2 hT.1));have HRe:=hd9 (fun(W:M) (hW:Ext w W) (vt:J) (h:IsPts W vt tp)=>zdZ W vl vt (btw (lowP2 p) tp) pin (d2.ext' hW) h (zbQ hlo hT) hp);have HEnd:=hd9 (fun(W:M) (hW:Ext w W) (vx:J) (x:Rat) (hx:IsR W vx x) (hb:Rb 1000 x) (bl:Nat) (hbl:W.heap[bl]?=I (.cells (lac p s vl vu) 101 (0,0)))=>zcN W vx x p bl s vl vu hx hb hbl (d2.ext' hW) hlo);have HSl:=hd9 (fun(W:M) (vt vx vr:J) (x rt:Rat) (h:IsPts W vt tp) (hx:IsR W vx x) (hb:Rb 1000 x) (hr:IsR W vr rt) (hbr:Rb 1000 rt)=>zeb W vt vx vr tp x rt h hT hup hx hb hr hbr);have HTp:=hd9 htop;obtain⟨R,hR⟩:=gX (RetBe w (bedO p tp b pin));rw [hR];have HR:=hd9 hR;unfold bedO at HR;obtain⟨sp,hsp⟩:=gX (btw (lowP2 p) tp);rw [hsp]at HBt HRe HR;have hok:SpOk sp:=hsp▸zbQ hlo hT
 have hob:∀o,reachP sp pin=I o→Rb 300 o.1∧Rb 300 o.2:=fun o ho=>by
  unfold reachP at ho
  split at ho
  ·cases ho
  ·cases ho
   have h1:Rb 300 (leastR sp).1:=(zak hok _ (by unfold leastR;exact(zax (gapR sp) (zaD sp)).1)).up (by decide);exact Rb.reach_n (o:=((leastR sp).1,(leastR sp).1)) ⟨h1,h1⟩ (zak hok) (fun q hq=>Rb.pin_g (zak hok q hq) hok hp) _ (nE _)
 have Hob:=hd9 hob;unfold spc at HRe;obtain⟨sa1,sn1,sc1,rfl⟩:=form3 d1;obtain⟨la1,ln1,lc1,rfl⟩:=form3 d2;obtain⟨ua1,un1,uc1,rfl⟩:=form3 d3;have hi:=(lS.1 ha).1;have p1:(0:Int)≤(a:Int):=by omega
 have p2:(a:Int)<(n:Int):=by omega
 have p3:a<n:=by omega
 have cc0:=hc 0 (.string p.name) rfl;have cc1:=hc 1 (O sa1 sn1 sc1) rfl;have cc2:=hc 2 (Y Z p.depth) rfl;have cc3:=hc 3 (Y Z p.density) rfl;have cc4:=hc 4 (Y Z p.gx) rfl;have cc5:=hc 5 (Y Z p.gz) rfl;have cc6:=hc 6 (Y Z p.way) rfl;have cc7:=hc 7 (Y Z p.ax) rfl;have cc8:=hc 8 (Y Z p.az) rfl;have cc9:=hc 9 (Y .u8 p.skin) rfl;have cc10:=hc 10 (O la1 ln1 lc1) rfl;have cc11:=hc 11 (O ua1 un1 uc1) rfl;simp only [Nat.add_zero]at cc0;have hnb:((a:Int)==b)=false:=by simpa using hne
 rw [hsp]at hlt hro
 have Hcase:=hd9 (show b<0∨∃(jb:Nat) (q:Pl) (v2:J),b=(jb:Int)∧jb<n∧meetB p q=true∧(∃a n c,v2=O a n c)∧∀(m:Nat) u,(plc q v2)[m]?=I u→w.cell? ⟨b0,o+jb*12+m,X⟩=I u from by
  rcases hcase with h|⟨jb,q,h1,hq,h3,h4⟩
  ·exact .inl h
  ·obtain⟨b1,o1,s',vl',vu',e9,hb1,d1',d2',d3',hc'⟩:=hs.at' hq
   cases e9
   have hiq:=(lS.1 hq).1;exact .inr ⟨jb,q,s',h1,by omega,h3,form3 d1',fun m u hu=>hc' m u (zgv hu)⟩)
 have hbz1:b0<w.heap.size+1:=by omega
 have hbz2:b0<w.heap.size+1+1:=by omega
 clear hcase hs ha hc d1 d2 d3 hl hle hi htop hR hob hsp hok hT hup hlo hp;go_enter Tryz.func58,Tryz.ntmps58
 go_upto_region 2 with fail
 go_cut [40] (BdH w (O ga gn gc) (O (I ⟨b0,o,X⟩) n sc) (lac p (O sa1 sn1 sc1) (O la1 ln1 lc1) (O ua1 un1 uc1)))
 case first =>
  rcases Hcase.out with hb|⟨jb,q,v2,hbj,r4,hmt,⟨sa2,sn2,sc2,rfl⟩,hc'⟩
  ·have hb9:¬0≤b:=by omega
   have hb8:decide ((0:Int)≤b)=false:=by simp;omega
   refine wp_region_held_drew (S:=CellL []) (by kernel_rfl) trivial (fun h9H=>?_);refine sN 0 ?_
   iterate 7
    refine tkn ?_
   iterate 10
    refine tkgn ?_
   iterate 2
    refine tkn ?_
   refine oN ?_;refine wpAnyH_done (by kernel_rfl) ?_ _;go_wp2;go_meet;exact⟨rfl,((((eR w).alloc _).alloc _).alloc _).drew,((((eR _).alloc _).alloc _).drew).heapS (aN w _),(((eR _).alloc _).drew).heapS (qhA _ _ _ (by simp)),((eR _).drew).heapS (qhA _ _ _ (by simp))⟩
  ·subst hbj
   have hb9:(0:Int)≤(jb:Int):=by omega
   have hb8:decide ((0:Int)≤(jb:Int))=true:=by simp
   have r2:(jb:Int)<(n:Int):=by omega
   have qq0:=hc' 0 (.string q.name) rfl;have qq1:=hc' 1 (O sa2 sn2 sc2) rfl;have qq2:=hc' 2 (Y Z q.depth) rfl;have qq3:=hc' 3 (Y Z q.density) rfl;have qq4:=hc' 4 (Y Z q.gx) rfl;have qq5:=hc' 5 (Y Z q.gz) rfl;have qq6:=hc' 6 (Y Z q.way) rfl;have qq7:=hc' 7 (Y Z q.ax) rfl;have qq8:=hc' 8 (Y Z q.az) rfl;have qq9:=hc' 9 (Y .u8 q.skin) rfl;simp only [Nat.add_zero]at qq0;have HMt:=hd9 (fun(W:M)=>zb9 W p q (O sa1 sn1 sc1) (O sa2 sn2 sc2) ⟨_,_,_,rfl⟩ ⟨_,_,_,rfl⟩);rw [hmt]at HMt;unfold plc at HMt;clear hc' hmt;refine wp_region_held_drew (S:=CellL [(⟨w.heap.size+1+1,0,X⟩,.string p.name),(⟨w.heap.size+1+1,1,X⟩,O sa1 sn1 sc1),(⟨w.heap.size+1+1,2,X⟩,Y Z p.depth),(⟨w.heap.size+1+1,3,X⟩,Y Z p.density),(⟨w.heap.size+1+1,4,X⟩,Y Z p.gx),(⟨w.heap.size+1+1,5,X⟩,Y Z p.gz),(⟨w.heap.size+1+1,6,X⟩,Y Z p.way),(⟨w.heap.size+1+1,7,X⟩,Y Z p.ax),(⟨w.heap.size+1+1,8,X⟩,Y Z p.az),(⟨w.heap.size+1+1,9,X⟩,Y .u8 p.skin),(⟨w.heap.size,1,X⟩,O (I ⟨b0,o,X⟩) n sc),(⟨b0,o+jb*12,X⟩,.string q.name),(⟨b0,o+jb*12+1,X⟩,O sa2 sn2 sc2),(⟨b0,o+jb*12+2,X⟩,Y Z q.depth),(⟨b0,o+jb*12+3,X⟩,Y Z q.density),(⟨b0,o+jb*12+4,X⟩,Y Z q.gx),(⟨b0,o+jb*12+5,X⟩,Y Z q.gz),(⟨b0,o+jb*12+6,X⟩,Y Z q.way),(⟨b0,o+jb*12+7,X⟩,Y Z q.ax),(⟨b0,o+jb*12+8,X⟩,Y Z q.az),(⟨b0,o+jb*12+9,X⟩,Y .u8 q.skin)]) (by kernel_rfl) cA (fun h9H=>?_);refine sN 0 ?_
   iterate 15
    refine tkn ?_
   refine oN ?_;refine cl1 (i:=15) fun K hK=>?_
   go_simp
   (with_reducible refine cM (HMt.out _) ?_)
   rintro e w3 ⟨rfl,hx3⟩
   skip
   go_wp2_with fail
   refine kO hK (cE h9H hx3) (fun h9H=>?_);clear hK K;refine sN 16 ?_
   iterate 3
    refine tkn ?_
   refine oN ?_;refine wpAnyH_done (by kernel_rfl) ?_ _;go_wp2;go_meet;exact⟨rfl,((((eR w).alloc _).alloc _).alloc _).drew.trans hx3,hx3.heapS (((((eR _).alloc _).alloc _).drew).heapS (aN w _)),hx3.heapS ((((eR _).alloc _).drew).heapS (qhA _ _ _ (by simp))),hx3.heapS (((eR _).drew).heapS (qhA _ _ _ (by simp)))⟩
 case rest =>
  obtain⟨rfl,X3,K4,K8,K10⟩:=hcut;obtain⟨W3,rfl⟩:∃W,W=wc:=⟨_,rfl⟩;have z3:w.heap.size+1+1<W3.heap.size:=zaa K10;have z3a:w.heap.size<W3.heap.size:=by omega
  have z3b:w.heap.size+1<W3.heap.size:=by omega
  clear Hcase cc0 cc1 cc2 cc3 cc4 cc5 cc6 cc7 cc8 cc9 cc10 cc11;have s0:=qcB K4 (i:=0) (u:=O ga gn gc) rfl;have s1:=qcB K4 (i:=1) (u:=O (I ⟨b0,o,X⟩) n sc) rfl;have l10:=qcB K10 (i:=10) (u:=O la1 ln1 lc1) rfl;have k0:=qcB K8 (i:=0) (u:=Y Z 0) rfl;have k1:=qcB K8 (i:=1) (u:=O X 0 0) rfl;have k2:=qcB K8 (i:=2) (u:=V false) rfl;have k3:=qcB K8 (i:=3) (u:=O X 0 0) rfl;have k4:=qcB K8 (i:=4) (u:=O X 0 0) rfl;have k5:=qcB K8 (i:=5) (u:=V false) rfl;have k6:=qcB K8 (i:=6) (u:=O X 0 0) rfl;have k7:=qcB K8 (i:=7) (u:=O X 0 0) rfl;have k8:=qcB K8 (i:=8) (u:=V false) rfl;have k9:=qcB K8 (i:=9) (u:=O X 0 0) rfl;have k10:=qcB K8 (i:=10) (u:=O X 0 0) rfl;have k11:=qcB K8 (i:=11) (u:=V false) rfl;have k12:=qcB K8 (i:=12) (u:=O X 0 0) rfl;have k13:=qcB K8 (i:=13) (u:=Y Z 0) rfl;have k14:=qcB K8 (i:=14) (u:=Y Z 0) rfl;have k15:=qcB K8 (i:=15) (u:=Y Z 0) rfl;have k16:=qcB K8 (i:=16) (u:=Y Z 0) rfl;have kf:=qfB K8;have HK8:=hd9 K8;have HK10:=hd9 K10;have HX3:=hd9 X3;clear K4 K8 K10 X3;have hd:decide (sp.lo<sp.hi)=true:=by simp [hlt]
  rw [if_pos hlt]at HR;rw [hro]at HRe HR;have Hrb:=hd9 (Hob.out ro hro);have hmf:∀(fn:Fn) (first cap:Array J) (w:M),(Instr.makeFunc fn first cap).run Tryz.prog w = .ok (.func fn first cap) w:=fun _ _ _ _=>rfl
  go_wp2_with(first|(go_at_call 94;(with_reducible refine(HTp.out _ HX3.out).mono ?_);rintro e w4 ⟨vt,rfl,hvt,hx4⟩;obtain⟨ta,tn,tc,rfl⟩:=form3 hvt;obtain⟨hc4,hf4⟩:=hx4.cells;(have z4:=hx4.size);(try simp only [wZ,qdZ]at z4);(have za4:w.heap.size<w4.heap.size:=(by omega));(have zb4:w.heap.size+1<w4.heap.size:=(by omega));(have zc4:w.heap.size+1+1<w4.heap.size:=(by omega));(have zd4:w.heap.size<w4.heap.size+1:=(by omega));(have ze4:w.heap.size+1<w4.heap.size+1:=(by omega));(have zf4:w.heap.size+1+1<w4.heap.size+1:=(by omega)))|(go_at_call 53;(with_reducible refine(HBt.out _ (HX3.out.trans hx4) _ hvt).mono ?_);rintro e w5 ⟨rfl,hx5⟩;unfold spc;(try rw [hd]);obtain⟨hc5,hf5⟩:=hx5.cells;(have z5:=hx5.size);(try simp only [wZ,qdZ]at z5);(have za5:w.heap.size<w5.heap.size:=(by omega));(have zb5:w.heap.size+1<w5.heap.size:=(by omega));(have zc5:w.heap.size+1+1<w5.heap.size:=(by omega));(have zd5:w.heap.size<w5.heap.size+1:=(by omega));(have ze5:w.heap.size+1<w5.heap.size+1:=(by omega));(have zf5:w.heap.size+1+1<w5.heap.size+1:=(by omega)))|(go_at_call 108;(with_reducible refine(HRe.out _ (((HX3.out.trans hx4).trans hx5).alloc _) _ ((hvt.ext' hx5).ext' ((eR _).alloc _))).mono ?_);rintro e w6 ⟨hx6,r1,r2,hr1,hr2,rfl⟩;obtain⟨ra1,rm1,rc1,rs1,ra2,rm2,rc2,rfl⟩:=hr1.form;obtain⟨qa1,qm1,qc1,qs1,qa2,qm2,qc2,rfl⟩:=hr2.form;obtain⟨hc6,hf6⟩:=hx6.cells;(have z6:=hx6.size);(try simp only [wZ,qdZ]at z6);(have za6:w.heap.size<w6.heap.size:=(by omega));(have zb6:w.heap.size+1<w6.heap.size:=(by omega));(have zc6:w.heap.size+1+1<w6.heap.size:=(by omega));(have zd6:w.heap.size<w6.heap.size+1:=(by omega));(have ze6:w.heap.size+1<w6.heap.size+1:=(by omega));(have zf6:w.heap.size+1+1<w6.heap.size+1:=(by omega))))
  have hr1:IsR w6 (N #[O ra1 rm1 rc1,V rs1,O ra2 rm2 rc2]) ro.1:=hr1;have hr2:IsR w6 (N #[O qa1 qm1 qc1,V qs1,O qa2 qm2 qc2]) ro.2:=hr2;obtain⟨W7,hW7⟩:=gX (((w6.alloc (.cells #[O ra1 rm1 rc1,V rs1,O ra2 rm2 rc2] 65)).alloc (.cells #[O qa1 qm1 qc1,V qs1,O qa2 qm2 qc2] 65)));have E67:Ext w6 W7:=by rw [←hW7];exact((eR _).alloc _).alloc _
  have E37:Ext W3 W7:=((hx4.trans hx5).trans (((eR _).alloc _).trans hx6)).trans E67;have B14:RB W7 w6.heap.size ro.1:=by rw [←hW7];exact(RB.new hr1 rfl).ext ((eR _).alloc _)
  have B15:RB W7 (w6.heap.size+1) ro.2:=by rw [←hW7];exact RB.new (hr2.ext ((eR _).alloc _)) (by simp)
  have HK10':=hd9 (E37.heapS HK10.out);have HK8':=hd9 (E37.heapS HK8.out);have Hvt:=hd9 ((((hvt.ext' hx5).ext' ((eR _).alloc _)).ext' hx6).ext' E67);have zw6:w.heap.size+1<w6.heap.size:=by omega
  have HX7:=hd9 (HX3.out.trans E37);rw [hW7];obtain⟨b14,hb14⟩:=gX w6.heap.size;rw [hb14]at B14 B15 zw6;simp only [hb14];clear hW7 k0 k1 k2 k3 k4 k5 k6 k7 k8 k9 k10 k11 k12 k13 k14 k15 k16 kf hc4 hf4 hc5 hf5 hc6 hf6 hb14 E67 hr1 hr2;obtain⟨pa,pm,pc1,ps',pa2,pm2,pc2,x0,x1,x2,xf0,xf1,xf2,xz,hpr⟩:=B14.rd;obtain⟨ea,em,ec,es,ea2,em2,ec2,y0,y1,y2,yf0,yf1,yf2,yz,her⟩:=B15.rd
  have hne8:∀q∈[((⟨b14,0,X⟩:Addr),Value.slice pa pm pc1),(⟨b14,1,X⟩,V ps'),(⟨b14,2,X⟩,O pa2 pm2 pc2),(⟨b14+1,0,X⟩,O ea em ec),(⟨b14+1,1,X⟩,V es),(⟨b14+1,2,X⟩,O ea2 em2 ec2)],w.heap.size+1≠q.1.block:=by
   intro q hq;simp at hq
   rcases hq with rfl|rfl|rfl|rfl|rfl|rfl<;>(dsimp only;omega)
  go_wp2;refine wp_region_held_drew (S:=CellL [(⟨b14,0,X⟩,O pa pm pc1),(⟨b14,1,X⟩,V ps'),(⟨b14,2,X⟩,O pa2 pm2 pc2),(⟨b14+1,0,X⟩,O ea em ec),(⟨b14+1,1,X⟩,V es),(⟨b14+1,2,X⟩,O ea2 em2 ec2)]) (by kernel_rfl) cA (fun h9H=>?_);refine sN 0 ?_
  iterate 3
   refine tkn ?_
  refine oN ?_;refine sN 4 ?_
  iterate 2
   refine tkn ?_
  refine oN ?_;refine sN 7 ?_
  iterate 3
   refine tkn ?_
  refine oN ?_;refine sN 11 ?_
  iterate 3
   refine tkn ?_
  refine oN ?_;have D0:Ext W7 W7.drew:=(eR _).drew;refine cl1 (i:=3) fun K hK=>?_
  go_simp
  (with_reducible refine cM (HEnd.out _ (HX7.out.trans D0) _ ro.1 (hpr.ext D0) (Hrb.out.1.mono (by omega)) _ (D0.heapS HK10'.out)) ?_)
  rintro e w8 ⟨v8',rfl,hv8,hx8⟩;obtain⟨fa,fm,fc,fs,fa2,fm2,fc2,fb,fn,fk,ft,fb2,fn2,fk2,rfl,hv81,hv82⟩:=hv8
  go_wp2_with fail
  refine kO hK (cE h9H hx8) (fun h9H=>?_);clear hK K;have D8:Ext W7 w8:=D0.trans hx8;refine cl1 (i:=6) fun K hK=>?_
  go_simp
  (with_reducible refine cM (HEnd.out _ (HX7.out.trans D8) _ ro.2 (her.ext D8) (Hrb.out.2.mono (by omega)) _ (D8.heapS HK10'.out)) ?_)
  rintro e w9 ⟨v9',rfl,hv9,hx9⟩;obtain⟨ga',gm,gc',gs,ga2,gm2,gc2,gb,gn',gk,gt,gb2,gn2,gk2,rfl,hv91,hv92⟩:=hv9
  go_wp2_with fail
  refine kO hK (cE h9H hx9) (fun h9H=>?_);clear hK K;have D9:Ext W7 w9:=D8.trans hx9;refine cl1 (i:=10) fun K hK=>?_
  go_simp
  (with_reducible refine cM (HSl.out _ _ _ _ ro.1 ro.2 (Hvt.out.ext' D9) (hpr.ext D9) (Hrb.out.1.mono (by omega)) (her.ext D9) (Hrb.out.2.mono (by omega))) ?_)
  rintro e w10 ⟨rfl,hx10⟩
  skip
  go_wp2_with fail
  refine kO hK (cE h9H hx10) (fun h9H=>?_);clear hK K;have D10:Ext W7 w10:=D9.trans hx10;refine cl1 (i:=14) fun K hK=>?_
  go_simp
  (with_reducible refine cM (HSl.out _ _ _ _ ro.2 ro.2 (Hvt.out.ext' D10) (her.ext D10) (Hrb.out.2.mono (by omega)) (her.ext D10) (Hrb.out.2.mono (by omega))) ?_)
  rintro e w11 ⟨rfl,hx11⟩
  skip
  go_wp2_with fail
  refine kO hK (cE h9H hx11) (fun h9H=>?_);clear hK K;have D11:Ext W7 w11:=D10.trans hx11;refine tk1 (i:=15) ?_;have KZ:=D11.heapS HK8'.out;have u0:=qcB KZ (i:=0) (u:=Y Z 0) rfl;have u1:=qcB KZ (i:=1) (u:=O X 0 0) rfl;have u2:=qcB KZ (i:=2) (u:=V false) rfl;have u3:=qcB KZ (i:=3) (u:=O X 0 0) rfl;have u4:=qcB KZ (i:=4) (u:=O X 0 0) rfl;have u5:=qcB KZ (i:=5) (u:=V false) rfl;have u6:=qcB KZ (i:=6) (u:=O X 0 0) rfl;have u7:=qcB KZ (i:=7) (u:=O X 0 0) rfl;have u8:=qcB KZ (i:=8) (u:=V false) rfl;have u9:=qcB KZ (i:=9) (u:=O X 0 0) rfl;have u10:=qcB KZ (i:=10) (u:=O X 0 0) rfl;have u11:=qcB KZ (i:=11) (u:=V false) rfl;have u12:=qcB KZ (i:=12) (u:=O X 0 0) rfl;have u13:=qcB KZ (i:=13) (u:=Y Z 0) rfl;have u14:=qcB KZ (i:=14) (u:=Y Z 0) rfl;have u15:=qcB KZ (i:=15) (u:=Y Z 0) rfl;have u16:=qcB KZ (i:=16) (u:=Y Z 0) rfl;have uf:=qfB KZ;have zk:=zaa KZ;have HZ:=hd9 KZ;have Hf:=hd9 (show IsV w11 (N #[O fa fm fc,V fs,O fa2 fm2 fc2,O fb fn fk,V ft,O fb2 fn2 fk2]) ro.1 (atR (lowP2 p) ro.1)from((IsV.ext ⟨_,_,_,_,_,_,_,_,_,_,_,_,_,_,rfl,hv81,hv82⟩ hx9).ext hx10).ext hx11);have Hg:=hd9 (show IsV w11 (N #[O ga' gm gc',V gs,O ga2 gm2 gc2,O gb gn' gk,V gt,O gb2 gn2 gk2]) ro.2 (atR (lowP2 p) ro.2)from(IsV.ext ⟨_,_,_,_,_,_,_,_,_,_,_,_,_,_,rfl,hv91,hv92⟩ hx10).ext hx11);clear KZ hv81 hv82 hv91 hv92 x0 x1 x2 xf0 xf1 xf2 y0 y1 y2 yf0 yf1 yf2 hpr her;refine cl1 (i:=16) fun K hK=>?_
  go_simp;refine kO hK (CellL.set17 h9H hne8 _ _ _ _ _ _ _ _ _ _ _ _ _ _ _ _ _) (fun h9H=>?_);clear hK K;refine tk1 (i:=17) ?_;refine wpAnyH_done (by kernel_rfl) ?_ _;clear h9H hne8;go_wp2;have n0:NoT 2 w11 (w.heap.size+1):=by intro cs fr e;rw [HZ.out]at e;cases e
  have EZ:=hd9 (HX7.out.trans D11);refine bR (v:=.tuple #[N #[Y Z b,O fa fm fc,V fs,O fa2 fm2 fc2,O fb fn fk,V ft,O fb2 fn2 fk2,O ga' gm gc',V gs,O ga2 gm2 gc2,O gb gn' gk,V gt,O gb2 gn2 gk2,Y Z (slopeR tp ro.1 ro.2).1,Y Z (slopeR tp ro.1 ro.2).2,Y Z (slopeR tp ro.2 ro.2).1,Y Z (slopeR tp ro.2 ro.2).2],V true]) (by simp [results,Tryz.results58,go_sem,zk,uf,u0,u1,u2,u3,u4,u5,u6,u7,u8,u9,u10,u11,u12,u13,u14,u15,u16]) rfl ?_;rw [←HR.out];refine⟨zdX EZ.out (Nat.le_succ _) _ _ _ _ _ _ _ _ _ _ _ _ _ _ _ _ _,.inr ⟨_,[Y Z b,O fa fm fc,V fs,O fa2 fm2 fc2,O fb fn fk,V ft,O fb2 fn2 fk2,O ga' gm gc',V gs,O ga2 gm2 gc2,O gb gn' gk,V gt,O gb2 gn2 gk2,Y Z (slopeR tp ro.1 ro.2).1,Y Z (slopeR tp ro.1 ro.2).2,Y Z (slopeR tp ro.2 ro.2).1,Y Z (slopeR tp ro.2 ro.2).2],rfl,rfl,[O fa fm fc,V fs,O fa2 fm2 fc2,O fb fn fk,V ft,O fb2 fn2 fk2],[O ga' gm gc',V gs,O ga2 gm2 gc2,O gb gn' gk,V gt,O gb2 gn2 gk2],rfl,Hf.out.keep (zeH n0 _ _ _ _ _ _ _ _ _ _ _ _ _ _ _ _ _),Hg.out.keep (zeH n0 _ _ _ _ _ _ _ _ _ _ _ _ _ _ _ _ _)⟩⟩
theorem zlu (w:M) (vg vs:J) (ps:List Pl) (a:Nat) (p:Pl) (b pin:Int) (tp:List (Int×Int)) (hg:∃a n c,vg=O a n c) (hs:IsLas w vs ps) (ha:ps[a]?=I p) (hcase:b<0∨∃(jb:Nat) (q:Pl),b=(jb:Int)∧ps[jb]?=I q∧meetB p q=true∧(a:Int)≠b) (hlo:LnOk (lowP2 p)) (hT:LnOk tp) (hup:LnUp tp)
  (htop:∀W,Ext w W→Calls Tryz.prog 94 #[N #[vg,vs],Y Z b] W fun e w'=>∃v,e = .returned v∧IsPts w' v tp∧Ext W w') (hp:Bd 104000 pin) :
  Calls Tryz.prog 58 #[N #[vg,vs],Y Z a,Y Z b,Y Z pin] w (RetBe w (bedO p tp b pin)):=by
 by_cases hlt:(btw (lowP2 p) tp).lo<(btw (lowP2 p) tp).hi
 ·cases hro:reachP (btw (lowP2 p) tp) pin with
  | none=>exact zks w vg vs ps a p b pin tp hg hs ha hcase hlo hT hup htop hp hlt hro
  | some ro=>exact zkv w vg vs ps a p b pin tp hg hs ha hcase hlo hT hup htop hp hlt ro hro
 ·exact zkt w vg vs ps a p b pin tp hg hs ha hcase hlo hT hup htop hp hlt
end
end Go.Proofs.YtodpfeaihohpjaaGreatDoor.Cop
