/- Part 40: contracts of what the law calls. -/
import Derived.Test.YteipgejmhfpkaaaGreatDoorCopA38
import Derived.Laws.StructEq
import Derived.Test.YteipgejmhfpkaaaGreatDoorCopA05
import Derived.ProofKit
import Derived.Deep.Slices
import Derived.Test.YteipgejmhfpkaaaGreatDoorCopA29
set_option maxRecDepth 1000000
set_option maxHeartbeats 16000000
set_option linter.unusedSimpArgs false
set_option linter.unusedVariables false
open Go.Value renaming int→O,slice→Z
open Go.IntKind renaming i64→Y,u8→M
open Option renaming none→X,some→V
open Go renaming World→I,Value→N
open Go.Obj renaming cells→J
namespace Go.Proofs.YteipgejmhfpkaaaGreatDoor.Cop
section
open Go.RowKit Go.Shelf Go.Sort Go.Lib
theorem WRm.ext {w W W':I} {g:List (Int×Int)} {ps:List Pl} {b5 b6 base:Nat} {vg vp:N} {c5 c6:Array N} (h:WRm w g ps b5 b6 base vg vp c5 c6 W) (k:Ext W W'):WRm w g ps b5 b6 base vg vp c5 c6 W':=by
 obtain⟨h1,h2,h3,h4,h5⟩:=h;exact⟨k.heapS h1,k.heapS h2,h3.ext' k,h4.extM k,h5.trans k⟩
theorem WRm.thr {w W:I} {g:List (Int×Int)} {ps:List Pl} {b5 b6 base gb n c k:Nat} {vg:N} {c5 c6:Array N} {p:Pl} (h:WRm w g ps b5 b6 base vg (Z (V ⟨gb,0,X⟩) n c) c5 c6 W) (hb:w.heap.size≤base) (hk:ps[k]?=V p) :
  WRm w g (ps.set k (thrP p)) b5 b6 base vg (Z (V ⟨gb,0,X⟩) n c) c5 c6 (W.setCell ⟨gb,k*10+9,X⟩ (O M 3)):=by
 obtain⟨h1,h2,h3,h4,h5⟩:=h
 have n5:b5≠gb:=fun e=>by
  obtain⟨cs,q,_⟩:=h4;exact q.ne_blkD h1 (by decide) (by rw [e];rfl)
 have n6:b6≠gb:=fun e=>by
  obtain⟨cs,q,_⟩:=h4;exact q.ne_blkD h2 (by decide) (by rw [e];rfl)
 have hl:=(lS.1 hk).1;obtain⟨g',e,hg1,hg2⟩:=h4.blk (by omega)
 cases e
 exact⟨(bS _ _ _ _ (by dsimp only;omega)).trans h1,(bS _ _ _ _ (by dsimp only;omega)).trans h2,h3.keep' (h4.keepPt _),h4.thr hk,h5.set (by dsimp only;omega) _⟩
theorem zpZ (W:I) {b:Nat} (hb:b=W.heap.size) (x:Int):IsIs (W.alloc (J #[O Y x] 3)) (Z (V ⟨b,0,X⟩) 1 1) [x]:=by
 subst hb;refine⟨[[O Y x]],rfl,by simp,⟨by simp,V ⟨W.heap.size,0,X⟩,1,rfl,nE _,by unfold maxLen;omega,.inr ⟨W.heap.size,0,_,(0,0),rfl,aN _ _,?_⟩⟩,?_⟩
 ·intro i v hv
  simpa using hv
 ·intro i c v hc hv
  match i,hc,hv with
  | 0,hc,hv=>simp at hc hv;subst hc hv;rfl
  | i+1,hc,hv=>simp at hc
theorem OwnPl.cut {w:I} {base g n c:Nat} {ps:List Pl} (h:OwnPl w base (Z (V ⟨g,0,X⟩) n c) ps) {m:Nat} (hm:m≤ps.length):OwnPl w base (Z (V ⟨g,0,X⟩) m c) (ps.take m):=by
 obtain⟨cs,h1,h2,h3⟩:=h;refine⟨cs.take m,h1.cut (by omega),by rw [List.length_take,List.length_take];omega,fun i d p hd hp=>?_⟩;rw [List.getElem?_take]at hd hp
 split at hd
 ·rename_i hi
  rw [if_pos hi]at hp;exact h3 i d p hd hp
 ·cases hd
theorem zpw (w:I) (vg vp:N) (hg:IsPts w vg exG) (hp:IsPls w vp exP) (hgw:Gw w) :
  Calls Tryz.prog 13 #[.agg #[vg,vp],.agg (ruc exR)] w fun e w'=>∃a c,e = .returned (.tuple #[Z a 8 c,O Y 0])∧IsFds w' (Z a 8 c) exF∧Ext w w':=by
 refine(zit w vg vp exG exP exR hg hp hgw).mono ?_;rintro e w' ⟨v,l,rfl,hl,_,hd,hx⟩;rw [zm9]at hd ⊢;obtain rfl:=zpX (hd rfl);obtain⟨a,c,rfl⟩:=hl.form;exact⟨a,c,rfl,hl,hx⟩
theorem zpQ (x:Int) (ro:List Int) (b:Bool) (w:I) (vg vp vro:N) (hg:IsPts w vg exG) (hp:IsPls w vp exP) (hgw:Gw w) (hro:IsIs w vro ro) (hb:byE exG exP ⟨1,0,20,50,10,x,5⟩=0) (hr:b=true ↔ ro.length=2∧PrvP ⟨1,0,20,50,10,x,5⟩ [exJ1,exJ2] ro) :
  Calls Tryz.prog 18 #[.agg #[vg,vp],.agg (ruc ⟨1,0,20,50,10,x,5⟩),vro] w fun e w'=>e = .returned (.bool b)∧Ext w w':=by
 refine(zpU w vg vp vro exG exP ⟨1,0,20,50,10,x,5⟩ ro hg hp hgw hro).mono fun e w' h=>?_
 obtain⟨hx,c,rfl,hc⟩:=zpF hb h;refine⟨?_,hx⟩;rw [show c=b from by cases c<;>cases b<;>simp_all]
theorem zpy {a b x:Int} (h:¬((a≤0∧80-x≤a)∧(b≤80∧160-x≤b∧b≤a))):false=true ↔ [a,b].length=2∧PrvP ⟨1,0,20,50,10,x,5⟩ [exJ1,exJ2] [a,b]:=by
 rw [zpN];simp;omega
theorem zp0 {a b x:Int} (h:(a≤0∧80-x≤a)∧(b≤80∧160-x≤b∧b≤a)):true=true ↔ [a,b].length=2∧PrvP ⟨1,0,20,50,10,x,5⟩ [exJ1,exJ2] [a,b]:=by
 rw [zpN];simp;omega
theorem zpx (w:I) (hgw:Gw w):Calls Tryz.prog 7 #[] w fun e w'=>e = .returned (.bool true)∧Ext w w':=by
 have HA:=hd9 (fun(W:I) (hW:Ext w W)=>ziP W (hgw.ext hW));have HG:=hd9 hgw;clear hgw;go_enter Tryz.func7,Tryz.ntmps7
 go_upto_region 1 with fail
 go_cut [1,2] (WRu w exG exP exR)
 case first =>
  go_wp2_with(first|(go_at_call 20;(with_reducible refine(zlI _).mono ?_);rintro e w1 ⟨vg1,vp1,rfl,hg1,hp1,hx1⟩;obtain⟨ga,gn,gc,rfl⟩:=form3 hg1;obtain⟨pa,pn,pc1,rfl⟩:=form3 hp1.pls)|(go_at_call 21;(with_reducible refine(zcr _).mono ?_);rintro e w2 ⟨rfl,hx2⟩;(unfold ruc exR);dsimp only))
  go_meet;have X2:Ext w w2:=hx1.trans hx2;have z2:=X2.size;exact⟨_,_,_,_,rfl,rfl,by omega,z2,by omega,zhp _ _ _,zej _ _ _,hg1.ext' ((hx2.alloc _).alloc _),(hp1.extM hx2).extM (((eR _).alloc _).alloc _),(X2.alloc _).alloc _⟩
 case rest =>
  obtain⟨b5,b6,vg2,vp2,rfl,rfl,hne,h5,h6,K5,K6,hg2,ho2,X2⟩:=hcut;obtain⟨ga,gn,gc,rfl⟩:=form3 hg2;obtain⟨pa,pn,pc1,rfl⟩:=form3 ho2.pls;obtain⟨gb,rfl,hgb1,hgb2⟩:=ho2.blk (by decide);obtain rfl:pn=5:=ho2.len;obtain⟨wa,rfl⟩:∃W,W=wc:=⟨_,rfl⟩;have hM:WRm w exG exP b5 b6 w.heap.size (Z ga gn gc) (Z (V ⟨gb,0,X⟩) 5 pc1) #[Z ga gn gc,Z (V ⟨gb,0,X⟩) 5 pc1] (ruc exR) wa:=⟨K5,K6,hg2,ho2,X2⟩;have HM:=hd9 hM;have HSu:=hd9 (fun(W:I) (hW:Ext wa W)=>zpw W _ _ (hg2.ext' hW) (ho2.pls.ext' hW) (HG.out.ext (X2.trans hW)));have HLg:=hd9 (fun(W:I) (hW:Ext wa W)=>(zpq W _ _ exG exP exR (hg2.ext' hW) (ho2.pls.ext' hW) (HG.out.ext (X2.trans hW))).mono fun e w' h=>zpv h);have HP1:=hd9 (fun(W:I) (hW:Ext wa W) (v:N) (hv:IsIs W v [0,0])=>zpQ 100 [0,0] false W _ _ v (hg2.ext' hW) (ho2.pls.ext' hW) (HG.out.ext (X2.trans hW)) hv zm9 (zpy (by omega)));have HP2:=hd9 (fun(W:I) (hW:Ext wa W) (v:N) (hv:IsIs W v [0,80])=>zpQ 100 [0,80] false W _ _ v (hg2.ext' hW) (ho2.pls.ext' hW) (HG.out.ext (X2.trans hW)) hv zm9 (zpy (by omega)));unfold ruc exR at HSu HLg K6;unfold ruc at HP1 HP2;dsimp only at HSu HLg HP1 HP2 K6;have HX2:=hd9 X2;have Hb:=hd9 (And.intro h5 h6);have k50:=qcB K5 (i:=0) (u:=Z ga gn gc) rfl;have k51:=qcB K5 (i:=1) (u:=Z (V ⟨gb,0,X⟩) 5 pc1) rfl;have k60:=qcB K6 (i:=0) (u:=O M 1) rfl;have k61:=qcB K6 (i:=1) (u:=O Y 0) rfl;have k62:=qcB K6 (i:=2) (u:=O Y 20) rfl;have k63:=qcB K6 (i:=3) (u:=O Y 50) rfl;have k64:=qcB K6 (i:=4) (u:=O Y 10) rfl;have k65:=qcB K6 (i:=5) (u:=O Y 100) rfl;have k66:=qcB K6 (i:=6) (u:=O Y 5) rfl;clear hM hg2 ho2 X2 K5 K6 h5 h6 hgb1 hgb2
  go_upto_region 4 with (first|(go_at_call 13;(with_reducible refine(HSu.out _ (eR _)).mono ?_);rintro e w3 ⟨la,lc,rfl,hl,hx3⟩;have X3:Ext wa w3:=hx3;have k50:=hx3.cellS k50;have k51:=hx3.cellS k51;have k60:=hx3.cellS k60;have k61:=hx3.cellS k61;have k62:=hx3.cellS k62;have k63:=hx3.cellS k63;have k64:=hx3.cellS k64;have k65:=hx3.cellS k65;have k66:=hx3.cellS k66)|(go_at_call 19;(with_reducible refine(HLg.out _ X3).mono ?_);rintro e w4 ⟨hx4,v4,rfl,hv4⟩;obtain⟨va,vn,vc,rfl⟩:=form3 hv4;have X4:Ext wa w4:=X3.trans hx4;have k50:=hx4.cellS k50;have k51:=hx4.cellS k51;have k60:=hx4.cellS k60;have k61:=hx4.cellS k61;have k62:=hx4.cellS k62;have k63:=hx4.cellS k63;have k64:=hx4.cellS k64;have k65:=hx4.cellS k65;have k66:=hx4.cellS k66))
  have hl4:=hl.ext' hx4;obtain⟨lb,lo,d,rfl,_,_,hd0,q0⟩:=Sl.at hl4 (i:=0) (x:=⟨1,1,-1,160⟩) rfl;obtain⟨lb1,lo1,d1,e1,_,_,hd1,q1⟩:=Sl.at hl4 (i:=1) (x:=⟨2,0,2,0⟩) rfl
  cases e1
  obtain⟨lb2,lo2,d2,e2,_,_,hd2,q2⟩:=Sl.at hl4 (i:=2) (x:=⟨2,0,3,0⟩) rfl
  cases e2
  obtain⟨lb7,lo7,d7,e7,_,_,hd7,q7⟩:=Sl.at hl4 (i:=7) (x:=⟨3,-1,4,100⟩) rfl
  cases e7
  subst hd0 hd1 hd2 hd7;have l00:=q0 0 (O M 1) rfl;have l01:=q0 1 (O Y (1)) rfl;have l02:=q0 2 (O Y (-1)) rfl;have l03:=q0 3 (O Y (160)) rfl;have l10:=q1 0 (O M 2) rfl;have l11:=q1 1 (O Y (0)) rfl;have l12:=q1 2 (O Y (2)) rfl;have l13:=q1 3 (O Y (0)) rfl;have l20:=q2 0 (O M 2) rfl;have l21:=q2 1 (O Y (0)) rfl;have l22:=q2 2 (O Y (3)) rfl;have l23:=q2 3 (O Y (0)) rfl;have l70:=q7 0 (O M 3) rfl;have l71:=q7 1 (O Y (-1)) rfl;have l72:=q7 2 (O Y (4)) rfl;have l73:=q7 3 (O Y (100)) rfl;simp only [Nat.add_zero,Nat.zero_mul,Nat.one_mul,Nat.reduceMul]at l00 l01 l02 l03 l10 l11 l12 l13 l20 l21 l22 l23 l70 l71 l72 l73;have hvl:=hv4.len;have HI:=hd9 (fun(W:I) (hW:Ext w4 W) (v:N) (h:IsIs W v [0,1])=>zg8 W _ v [0,1] [0,1] (hv4.ext' hW) h);have HX4:=hd9 X4;clear hl hl4 hx3 hx4 X3 X4 q0 q1 q2 q7 hv4 hvl k50 k51 k60 k61 k62 k63 k64 k65 k66
  go_upto_region 6 with (first|(go_at_call 9;(with_reducible refine(HA.out _ (HX2.out.trans HX4.out)).mono ?_);rintro e w5 ⟨rfl,hx5⟩;have l00:=hx5.cellS l00;have l01:=hx5.cellS l01;have l02:=hx5.cellS l02;have l03:=hx5.cellS l03;have l10:=hx5.cellS l10;have l11:=hx5.cellS l11;have l12:=hx5.cellS l12;have l13:=hx5.cellS l13;have l20:=hx5.cellS l20;have l21:=hx5.cellS l21;have l22:=hx5.cellS l22;have l23:=hx5.cellS l23;have l70:=hx5.cellS l70;have l71:=hx5.cellS l71;have l72:=hx5.cellS l72;have l73:=hx5.cellS l73)|(go_at_call 22;(with_reducible refine(HI.out _ (hx5.alloc _) _ ((zks w5 0 0 1 (Nat.zero_le _)).is)).mono ?_);rintro e w6 ⟨rfl,hx6⟩))
  have X6:Ext wa w6:=HX4.out.trans ((hx5.alloc _).trans hx6);have HM6:=hd9 (HM.out.ext X6);obtain⟨K5,K6,_,_,_⟩:=HM6.out;simp only [ruc,exR]at K6;have k50:=qcB K5 (i:=0) (u:=Z ga gn gc) rfl;have k51:=qcB K5 (i:=1) (u:=Z (V ⟨gb,0,X⟩) 5 pc1) rfl;have k60:=qcB K6 (i:=0) (u:=O M 1) rfl;have k61:=qcB K6 (i:=1) (u:=O Y 0) rfl;have k62:=qcB K6 (i:=2) (u:=O Y 20) rfl;have k63:=qcB K6 (i:=3) (u:=O Y 50) rfl;have k64:=qcB K6 (i:=4) (u:=O Y 10) rfl;have k65:=qcB K6 (i:=5) (u:=O Y 100) rfl;have k66:=qcB K6 (i:=6) (u:=O Y 5) rfl;clear hx5 hx6 K5 K6 HI HX4;clear l00;clear l01;clear l02;clear l03;clear l10;clear l11;clear l12;clear l13;clear l20;clear l21;clear l22;clear l23;clear l70;clear l71;clear l72;clear l73
  go_upto_region 8 with (first|(go_at_call 18;(with_reducible refine(HP1.out _ (X6.alloc _) _ ((zks w6 0 0 0 (Nat.zero_le _)).is)).mono ?_);rintro e w7 ⟨rfl,hx7⟩;have y7:=((eR w6).alloc _).trans hx7;have X7:=X6.trans y7;have k50:=y7.cellS k50;have k51:=y7.cellS k51;have k60:=y7.cellS k60;have k61:=y7.cellS k61;have k62:=y7.cellS k62;have k63:=y7.cellS k63;have k64:=y7.cellS k64;have k65:=y7.cellS k65;have k66:=y7.cellS k66)|(go_at_call 18;(with_reducible refine(HP2.out _ (X7.alloc _) _ ((zks w7 0 0 80 (Nat.zero_le _)).is)).mono ?_);rintro e w8 ⟨rfl,hx8⟩;have y8:=((eR w7).alloc _).trans hx8))
  have HM8:=hd9 (HM.out.ext (X7.trans y8));obtain⟨K5,K6,_,_,_⟩:=HM8.out;simp only [ruc,exR]at K6;have k50:=qcB K5 (i:=0) (u:=Z ga gn gc) rfl;have k51:=qcB K5 (i:=1) (u:=Z (V ⟨gb,0,X⟩) 5 pc1) rfl;have k60:=qcB K6 (i:=0) (u:=O M 1) rfl;have k61:=qcB K6 (i:=1) (u:=O Y 0) rfl;have k62:=qcB K6 (i:=2) (u:=O Y 20) rfl;have k63:=qcB K6 (i:=3) (u:=O Y 50) rfl;have k64:=qcB K6 (i:=4) (u:=O Y 10) rfl;have k65:=qcB K6 (i:=5) (u:=O Y 100) rfl;have k66:=qcB K6 (i:=6) (u:=O Y 5) rfl;have f6:=qfB K6;clear hx7 y7 hx8 y8 X6 X7 K5 K6 HM6 HP1 HP2
  go_upto_region 9 with fail
  have hM9:=HM8.out.put6 hne Hb.out.2 5 (O Y 160) (c:=ruc ⟨1,0,20,50,10,160,5⟩) rfl;obtain⟨wb,hwb⟩:=gX (w8.setCell ⟨b6,5,X⟩ (O Y 160));rw [hwb]at hM9 ⊢;clear hwb k50 k51 k60 k61 k62 k63 k64 k65 k66 f6;have HM9:=hd9 hM9;clear hM9;have HPg:=hd9 (fun(ro:List Int) (b:Bool) (hr:b=true ↔ ro.length=2∧PrvP ⟨1,0,20,50,10,160,5⟩ [exJ1,exJ2] ro) (W:I) (hW:Ext wb W) (v:N) (hv:IsIs W v ro)=>zpQ 160 ro b W _ _ v (HM9.out.2.2.1.ext' hW) (HM9.out.2.2.2.1.pls.ext' hW) (HG.out.ext (HM9.out.2.2.2.2.trans hW)) hv zpW hr);have HBa:=hd9 (fun(W:I) (hW:Ext wb W)=>(zpc W _ _ exG exP 0 160 0 400 (HM9.out.2.2.1.ext' hW) (HM9.out.2.2.2.1.pls.ext' hW) (HG.out.ext (HM9.out.2.2.2.2.trans hW))).mono fun e w' h=>zpP h);unfold ruc at HPg;dsimp only at HPg;obtain⟨K5,K6,_,_,_⟩:=HM9.out;simp only [ruc,exR]at K6;have k50:=qcB K5 (i:=0) (u:=Z ga gn gc) rfl;have k51:=qcB K5 (i:=1) (u:=Z (V ⟨gb,0,X⟩) 5 pc1) rfl;have k60:=qcB K6 (i:=0) (u:=O M 1) rfl;have k61:=qcB K6 (i:=1) (u:=O Y 0) rfl;have k62:=qcB K6 (i:=2) (u:=O Y 20) rfl;have k63:=qcB K6 (i:=3) (u:=O Y 50) rfl;have k64:=qcB K6 (i:=4) (u:=O Y 10) rfl;have k65:=qcB K6 (i:=5) (u:=O Y 160) rfl;have k66:=qcB K6 (i:=6) (u:=O Y 5) rfl;clear K5 K6;have Xb:=eR wb
  go_upto_region 12 with (first|(go_at_call 18;(with_reducible refine(HPg.out [0,0] true (zp0 (by omega)) _ (Xb.alloc _) _ ((zks wb 0 0 0 (Nat.zero_le _)).is)).mono ?_);rintro e w11 ⟨rfl,hx11⟩;have y11:=((eR wb).alloc _).trans hx11;have X11:=Xb.trans y11;have k50:=y11.cellS k50;have k51:=y11.cellS k51;have k60:=y11.cellS k60;have k61:=y11.cellS k61;have k62:=y11.cellS k62;have k63:=y11.cellS k63;have k64:=y11.cellS k64;have k65:=y11.cellS k65;have k66:=y11.cellS k66)|(go_at_call 18;(with_reducible refine(HPg.out [0] false (by simp) _ (X11.alloc _) _ (zpZ w11 rfl 0)).mono ?_);rintro e w12 ⟨rfl,hx12⟩;have y12:=((eR w11).alloc _).trans hx12;have X12:=X11.trans y12;have k50:=y12.cellS k50;have k51:=y12.cellS k51;have k60:=y12.cellS k60;have k61:=y12.cellS k61;have k62:=y12.cellS k62;have k63:=y12.cellS k63;have k64:=y12.cellS k64;have k65:=y12.cellS k65;have k66:=y12.cellS k66)|(go_at_call 18;(with_reducible refine(HPg.out [0,80] false (zpy (by omega)) _ (X12.alloc _) _ ((zks w12 0 0 80 (Nat.zero_le _)).is)).mono ?_);rintro e w13 ⟨rfl,hx13⟩;have y13:=((eR w12).alloc _).trans hx13;have X13:=X12.trans y13;have k50:=y13.cellS k50;have k51:=y13.cellS k51;have k60:=y13.cellS k60;have k61:=y13.cellS k61;have k62:=y13.cellS k62;have k63:=y13.cellS k63;have k64:=y13.cellS k64;have k65:=y13.cellS k65;have k66:=y13.cellS k66)|(go_at_call 18;(with_reducible refine(HPg.out [1,0] false (zpy (by omega)) _ (X13.alloc _) _ ((zks w13 0 1 0 (Nat.zero_le _)).is)).mono ?_);rintro e w14 ⟨rfl,hx14⟩;have y14:=((eR w13).alloc _).trans hx14;have X14:=X13.trans y14;have k50:=y14.cellS k50;have k51:=y14.cellS k51;have k60:=y14.cellS k60;have k61:=y14.cellS k61;have k62:=y14.cellS k62;have k63:=y14.cellS k63;have k64:=y14.cellS k64;have k65:=y14.cellS k65;have k66:=y14.cellS k66)|(go_at_call 18;(with_reducible refine(HPg.out [0,-9223372036854775808] false (zpy (by omega)) _ (X14.alloc _) _ ((zks w14 0 0 (-9223372036854775808) (Nat.zero_le _)).is)).mono ?_);rintro e w15 ⟨rfl,hx15⟩;have y15:=((eR w14).alloc _).trans hx15;have X15:=X14.trans y15;have k50:=y15.cellS k50;have k51:=y15.cellS k51;have k60:=y15.cellS k60;have k61:=y15.cellS k61;have k62:=y15.cellS k62;have k63:=y15.cellS k63;have k64:=y15.cellS k64;have k65:=y15.cellS k65;have k66:=y15.cellS k66)|(go_at_call 23;(with_reducible refine(HBa.out _ X15).mono ?_);rintro e w16 ⟨rfl,hx16⟩))
  have HM16:=hd9 (HM9.out.ext (X15.trans hx16));obtain⟨K5,K6,_,_,_⟩:=HM16.out;simp only [ruc,exR]at K6;have k50:=qcB K5 (i:=0) (u:=Z ga gn gc) rfl;have k51:=qcB K5 (i:=1) (u:=Z (V ⟨gb,0,X⟩) 5 pc1) rfl;have k60:=qcB K6 (i:=0) (u:=O M 1) rfl;have k61:=qcB K6 (i:=1) (u:=O Y 0) rfl;have k62:=qcB K6 (i:=2) (u:=O Y 20) rfl;have k63:=qcB K6 (i:=3) (u:=O Y 50) rfl;have k64:=qcB K6 (i:=4) (u:=O Y 10) rfl;have k65:=qcB K6 (i:=5) (u:=O Y 160) rfl;have k66:=qcB K6 (i:=6) (u:=O Y 5) rfl;have f9:=HM16.out.2.2.2.1.frozen;have k29:w16.cell? ⟨gb,29,X⟩=V (O M 1):=HM16.out.2.2.2.1.skin (k:=2) (p:=brickP ⟨#[99]⟩ 0 80) rfl;clear hx11 hx12 hx13 hx14 hx15 hx16 y11 y12 y13 y14 y15 X11 X12 X13 X14 X15 Xb K5 K6 HPg HBa HM8 HM9
  go_upto_region 13 with fail
  have hM17:WRm w exG exQ b5 b6 w.heap.size (Z ga gn gc) (Z (V ⟨gb,0,X⟩) 5 pc1) #[Z ga gn gc,Z (V ⟨gb,0,X⟩) 5 pc1] (ruc ⟨1,0,20,50,10,160,5⟩) (w16.setCell ⟨gb,29,X⟩ (O M 3)):=HM16.out.thr (nE _) (k:=2) (p:=brickP ⟨#[99]⟩ 0 80) rfl;obtain⟨wd,hwd⟩:=gX (w16.setCell ⟨gb,29,X⟩ (O M 3));rw [hwd]at hM17 ⊢;clear hwd k50 k51 k60 k61 k62 k63 k64 k65 k66 f9 k29;have HM17:=hd9 hM17;clear hM17 HM16;have HBa:=hd9 (fun(W:I) (hW:Ext wd W)=>(zpc W _ _ exG exQ 0 160 0 400 (HM17.out.2.2.1.ext' hW) (HM17.out.2.2.2.1.pls.ext' hW) (HG.out.ext (HM17.out.2.2.2.2.trans hW))).mono fun e w' h=>zpB h);obtain⟨K5,K6,_,_,_⟩:=HM17.out;simp only [ruc,exR]at K6;have k50:=qcB K5 (i:=0) (u:=Z ga gn gc) rfl;have k51:=qcB K5 (i:=1) (u:=Z (V ⟨gb,0,X⟩) 5 pc1) rfl;have k60:=qcB K6 (i:=0) (u:=O M 1) rfl;have k61:=qcB K6 (i:=1) (u:=O Y 0) rfl;have k62:=qcB K6 (i:=2) (u:=O Y 20) rfl;have k63:=qcB K6 (i:=3) (u:=O Y 50) rfl;have k64:=qcB K6 (i:=4) (u:=O Y 10) rfl;have k65:=qcB K6 (i:=5) (u:=O Y 160) rfl;have k66:=qcB K6 (i:=6) (u:=O Y 5) rfl;clear K5 K6
  go_upto_region 17 with (first|(go_at_call 23;(with_reducible refine(HBa.out _ (eR wd)).mono ?_);rintro e w18 ⟨rfl,hx18⟩)|(go_at_call 24;(with_reducible refine(zbS _ ⟨#[116]⟩ 205 0).mono ?_);rintro e w19 ⟨v19,rfl,hv19,hx19⟩;obtain⟨a19,n19,c19,rfl⟩:=form3 hv19;(unfold plc brickP);dsimp only))
  have HM19:=hd9 (HM17.out.ext (hx18.trans hx19));clear k50 k51 k60 k61 k62 k63 k64 k65 k66 hx18 hx19 hv19 HBa;obtain⟨K5,K6,_,_,_⟩:=HM19.out;simp only [ruc,exR]at K6;have k50:=qcB K5 (i:=0) (u:=Z ga gn gc) rfl;have k51:=qcB K5 (i:=1) (u:=Z (V ⟨gb,0,X⟩) 5 pc1) rfl;have k60:=qcB K6 (i:=0) (u:=O M 1) rfl;have k61:=qcB K6 (i:=1) (u:=O Y 0) rfl;have k62:=qcB K6 (i:=2) (u:=O Y 20) rfl;have k63:=qcB K6 (i:=3) (u:=O Y 50) rfl;have k64:=qcB K6 (i:=4) (u:=O Y 10) rfl;have k65:=qcB K6 (i:=5) (u:=O Y 160) rfl;have k66:=qcB K6 (i:=6) (u:=O Y 5) rfl;clear K5 K6
  go_upto_region 18 with fail
  clear k50 k51 k60 k61 k62 k63 k64 k65 k66;have hpt:IsPts ((w19.alloc (J #[.string ⟨#[116]⟩,Z (V ⟨w19.heap.size+1,0,X⟩) 4 4,O Y 100,O Y 2400,O Y 1,O Y 0,O Y 0,O Y 205,O Y 0,O M 1] 46)).alloc (J #[O Y 0,O Y 0,O Y 5,O Y 0,O Y 5,O Y 40,O Y 0,O Y 40] 42)) (Z (V ⟨w19.heap.size+1,0,X⟩) 4 4) thinS:=zkx _ (by simp) thinS (by decide);have K12:=zhp w19 (J #[.string ⟨#[116]⟩,Z (V ⟨w19.heap.size+1,0,X⟩) 4 4,O Y 100,O Y 2400,O Y 1,O Y 0,O Y 0,O Y 205,O Y 0,O M 1] 46) (J #[O Y 0,O Y 0,O Y 5,O Y 0,O Y 5,O Y 40,O Y 0,O Y 40] 42);have hEt:=((eR w19).alloc (J #[.string ⟨#[116]⟩,Z (V ⟨w19.heap.size+1,0,X⟩) 4 4,O Y 100,O Y 2400,O Y 1,O Y 0,O Y 0,O Y 205,O Y 0,O M 1] 46)).alloc (J #[O Y 0,O Y 0,O Y 5,O Y 0,O Y 5,O Y 40,O Y 0,O Y 40] 42);obtain⟨wt,hwt⟩:=gX ((w19.alloc (J #[.string ⟨#[116]⟩,Z (V ⟨w19.heap.size+1,0,X⟩) 4 4,O Y 100,O Y 2400,O Y 1,O Y 0,O Y 0,O Y 205,O Y 0,O M 1] 46)).alloc (J #[O Y 0,O Y 0,O Y 5,O Y 0,O Y 5,O Y 40,O Y 0,O Y 40] 42));rw [hwt]at hpt K12 hEt ⊢;obtain⟨bt,hbt⟩:=gX w19.heap.size;rw [hbt]at hpt K12;simp only [hbt];have HMt:=hd9 (HM19.out.ext hEt);clear hwt hEt;have Hbt:=hd9 hbt;clear hbt;have Hpt:=hd9 hpt;clear hpt;obtain⟨vt,hvt⟩:=gX (Value.slice (V ⟨bt+1,0,X⟩) 4 4);have k50:=qcB HMt.out.1 (i:=0) (u:=Z ga gn gc) rfl;have t0:=qcB K12 (i:=0) (u:=.string ⟨#[116]⟩) rfl;have t1:=qcB K12 (i:=1) (u:=Z (V ⟨bt+1,0,X⟩) 4 4) rfl;have t2:=qcB K12 (i:=2) (u:=O Y 100) rfl;have t3:=qcB K12 (i:=3) (u:=O Y 2400) rfl;have t4:=qcB K12 (i:=4) (u:=O Y 1) rfl;have t5:=qcB K12 (i:=5) (u:=O Y 0) rfl;have t6:=qcB K12 (i:=6) (u:=O Y 0) rfl;have t7:=qcB K12 (i:=7) (u:=O Y 205) rfl;have t8:=qcB K12 (i:=8) (u:=O Y 0) rfl;have t9:=qcB K12 (i:=9) (u:=O M 1) rfl;clear K12 hvt vt;refine zap (fun i=>decide (6<i)) (CellL [(⟨b5,0,X⟩,Z ga gn gc),(⟨bt,0,X⟩,.string ⟨#[116]⟩),(⟨bt,1,X⟩,Z (V ⟨bt+1,0,X⟩) 4 4),(⟨bt,2,X⟩,O Y 100),(⟨bt,3,X⟩,O Y 2400),(⟨bt,4,X⟩,O Y 1),(⟨bt,5,X⟩,O Y 0),(⟨bt,6,X⟩,O Y 0),(⟨bt,7,X⟩,O Y 205),(⟨bt,8,X⟩,O Y 0),(⟨bt,9,X⟩,O M 1)]) (by kernel_rfl) ?_ (fun h9H=>?_)
  ·exact cA
  refine sN 0 ?_
  iterate 2
   refine tun ?_
  refine oN ?_;refine tu1 (i:=4) ?_;refine cu1 (i:=2) fun K hK=>?_
  go_simp
  (with_reducible refine cM (zbS _ ⟨#[97]⟩ 0 0) ?_)
  rintro e w20 ⟨v20,rfl,hv20,hx20⟩;obtain⟨a20,n20,c20,rfl⟩:=form3 hv20
  go_wp2_with fail
  refine kO hK (fun _=>cE h9H hx20) (fun h9H=>?_);clear hK K;have h9H:=h9H rfl;refine cu1 (i:=3) fun K hK=>?_
  go_simp
  (with_reducible refine cM (zbS _ ⟨#[98]⟩ 215 0) ?_)
  rintro e w21 ⟨v21,rfl,hv21,hx21⟩;obtain⟨a21,n21,c21,rfl⟩:=form3 hv21
  go_wp2_with fail
  refine kO hK (fun _=>cE h9H hx21) (fun h9H=>?_);clear hK K;have h9H:=h9H rfl;unfold plc brickP;dsimp only;refine cu1 (i:=5) fun K hK=>?_
  go_simp;refine kO hK (fun _=>cE h9H ((eR _).alloc _)) (fun h9H=>?_);clear hK K;have h9H:=h9H rfl;refine tu1 (i:=6) ?_;have X21:Ext wt w21:=(((eR wt).drew).trans hx20).trans hx21;have hv20:=hv20.ext' hx21;have hpt:=Hpt.out.ext' X21;have hM:=HMt.out.ext X21
  have hT:=zkt w21 (k:=w21.heap.size) (base:=w.heap.size) rfl hM.2.2.2.2.size [(brickP ⟨#[97]⟩ 0 0,Z a20 n20 c20),(brickP ⟨#[98]⟩ 215 0,Z a21 n21 c21),(thinP,Z (V ⟨bt+1,0,X⟩) 4 4)] (by
   intro q hq;simp only [List.mem_cons,List.not_mem_nil,or_false]at hq
   rcases hq with rfl|rfl|rfl
   ·exact⟨hv20,by unfold brickP;dsimp only;omega⟩
   ·exact⟨hv21,by unfold brickP;dsimp only;omega⟩
   ·exact⟨hpt,by unfold thinP;dsimp only;omega⟩) (by simp)
  have hMT:WRm w exG exT b5 b6 w.heap.size (Z ga gn gc) (Z (V ⟨w21.heap.size,0,X⟩) 3 3) #[Z ga gn gc,Z (V ⟨gb,0,X⟩) 5 pc1] (ruc ⟨1,0,20,50,10,160,5⟩) (w21.alloc (J #[.string ⟨#[97]⟩,Z a20 n20 c20,O Y 100,O Y 2400,O Y 1,O Y 0,O Y 0,O Y 0,O Y 0,O M 1,.string ⟨#[98]⟩,Z a21 n21 c21,O Y 100,O Y 2400,O Y 1,O Y 0,O Y 0,O Y 215,O Y 0,O M 1,.string ⟨#[116]⟩,Z (V ⟨bt+1,0,X⟩) 4 4,O Y 100,O Y 2400,O Y 1,O Y 0,O Y 0,O Y 205,O Y 0,O M 1] 46)):=by
   obtain⟨q1,q2,q3,q4,q5⟩:=hM.ext ((eR w21).alloc (J #[.string ⟨#[97]⟩,Z a20 n20 c20,O Y 100,O Y 2400,O Y 1,O Y 0,O Y 0,O Y 0,O Y 0,O M 1,.string ⟨#[98]⟩,Z a21 n21 c21,O Y 100,O Y 2400,O Y 1,O Y 0,O Y 0,O Y 215,O Y 0,O M 1,.string ⟨#[116]⟩,Z (V ⟨bt+1,0,X⟩) 4 4,O Y 100,O Y 2400,O Y 1,O Y 0,O Y 0,O Y 205,O Y 0,O M 1] 46));exact⟨q1,q2,q3,hT,q5⟩
  obtain⟨bT,hbT⟩:=gX w21.heap.size;obtain⟨wu,hwu⟩:=gX (w21.alloc (J #[.string ⟨#[97]⟩,Z a20 n20 c20,O Y 100,O Y 2400,O Y 1,O Y 0,O Y 0,O Y 0,O Y 0,O M 1,.string ⟨#[98]⟩,Z a21 n21 c21,O Y 100,O Y 2400,O Y 1,O Y 0,O Y 0,O Y 215,O Y 0,O M 1,.string ⟨#[116]⟩,Z (V ⟨bt+1,0,X⟩) 4 4,O Y 100,O Y 2400,O Y 1,O Y 0,O Y 0,O Y 205,O Y 0,O M 1] 46));rw [hbT]at hMT;simp only [hbT];rw [hwu]at hMT ⊢;have m50:=qcB hMT.1 (i:=0) (u:=Z ga gn gc) rfl;have m51:=qcB hMT.1 (i:=1) (u:=Z (V ⟨gb,0,X⟩) 5 pc1) rfl;have mf:=qfB hMT.1;have HMT:=hd9 hMT;clear hwu hT hM hMT hpt hv20 hv21 X21 hx20 hx21 hbT;refine cu1 (i:=7) fun K hK=>?_
  go_simp;refine kO hK (fun h=>nomatch h) (fun h9H=>?_);clear hK K;refine doneHU (by kernel_rfl) ?_ _;have hM22:=(HMT.out.put5 hne Hb.out.1 0 (Z ga gn gc) (c:=#[Z ga gn gc,Z (V ⟨gb,0,X⟩) 5 pc1]) rfl).put5 hne Hb.out.1 1 (Z (V ⟨bT,0,X⟩) 3 3) (c:=#[Z ga gn gc,Z (V ⟨bT,0,X⟩) 3 3]) rfl;obtain⟨we,hwe⟩:=gX ((wu.setCell ⟨b5,0,X⟩ (Z ga gn gc)).setCell ⟨b5,1,X⟩ (Z (V ⟨bT,0,X⟩) 3 3));rw [hwe]at hM22 ⊢;clear hwe m50 m51 mf h9H k50 t0 t1 t2 t3 t4 t5 t6 t7 t8 t9;have HM22:=hd9 hM22;clear hM22 HMT HMt HM19 HM17;have HJ1:=hd9 (fun(W:I) (hW:Ext we W)=>(zeA W _ _ exG exT ⟨1,0,20,50,10,160,5⟩ (HM22.out.2.2.1.ext' hW) (HM22.out.2.2.2.1.pls.ext' hW) (HG.out.ext (HM22.out.2.2.2.2.trans hW))).mono fun e w' h=>zpR h);unfold ruc at HJ1;dsimp only at HJ1;obtain⟨K5,K6,_,_,_⟩:=HM22.out;simp only [ruc,exR]at K6;have k50:=qcB K5 (i:=0) (u:=Z ga gn gc) rfl;have k51:=qcB K5 (i:=1) (u:=Z (V ⟨bT,0,X⟩) 3 3) rfl;have k60:=qcB K6 (i:=0) (u:=O M 1) rfl;have k61:=qcB K6 (i:=1) (u:=O Y 0) rfl;have k62:=qcB K6 (i:=2) (u:=O Y 20) rfl;have k63:=qcB K6 (i:=3) (u:=O Y 50) rfl;have k64:=qcB K6 (i:=4) (u:=O Y 10) rfl;have k65:=qcB K6 (i:=5) (u:=O Y 160) rfl;have k66:=qcB K6 (i:=6) (u:=O Y 5) rfl;clear K5 K6
  go_upto_region 20 with (go_at_call 15;(with_reducible refine(HJ1.out _ (eR we)).mono ?_);rintro e w23 ⟨ja,jc9,rfl,hj,hx23⟩)
  obtain⟨jb,jo,rfl,_,hc⟩:=hj.at' (i:=0) (j:=thJ1) rfl;obtain⟨jb',jo',e9,_,hc'⟩:=hj.at' (i:=1) (j:=thJ2) rfl
  cases e9
  have j00:=hc 0 (O Y 0) rfl;have j01:=hc 1 (O Y 2) rfl;have j10:=hc' 0 (O Y 2) rfl;have j11:=hc' 1 (O Y 1) rfl;simp only [Nat.add_zero,Nat.zero_mul,Nat.one_mul]at j00 j01 j10 j11;have HM23:=hd9 (HM22.out.ext hx23);clear hc hc' hj hx23 HJ1 k50 k51 k60 k61 k62 k63 k64 k65 k66 HM22;obtain⟨K5,K6,_,_,_⟩:=HM23.out;simp only [ruc,exR]at K6;have k50:=qcB K5 (i:=0) (u:=Z ga gn gc) rfl;have k51:=qcB K5 (i:=1) (u:=Z (V ⟨bT,0,X⟩) 3 3) rfl;have k60:=qcB K6 (i:=0) (u:=O M 1) rfl;have k61:=qcB K6 (i:=1) (u:=O Y 0) rfl;have k62:=qcB K6 (i:=2) (u:=O Y 20) rfl;have k63:=qcB K6 (i:=3) (u:=O Y 50) rfl;have k64:=qcB K6 (i:=4) (u:=O Y 10) rfl;have k65:=qcB K6 (i:=5) (u:=O Y 160) rfl;have k66:=qcB K6 (i:=6) (u:=O Y 5) rfl;have f6:=qfB K6;clear K5 K6
  go_upto_region 23 with fail
  have hM24:=HM23.out.put6 hne Hb.out.2 2 (O Y 4) (c:=ruc ⟨1,0,4,50,10,160,5⟩) rfl;obtain⟨wf,hwf⟩:=gX (w23.setCell ⟨b6,2,X⟩ (O Y 4));rw [hwf]at hM24 ⊢;clear hwf k50 k51 k60 k61 k62 k63 k64 k65 k66 f6 j00 j01 j10 j11;have HM24:=hd9 hM24;clear hM24 HM23;have HJ2:=hd9 (fun(W:I) (hW:Ext wf W)=>(zeA W _ _ exG exT ⟨1,0,4,50,10,160,5⟩ (HM24.out.2.2.1.ext' hW) (HM24.out.2.2.2.1.pls.ext' hW) (HG.out.ext (HM24.out.2.2.2.2.trans hW))).mono fun e w' h=>zpH h);unfold ruc at HJ2;dsimp only at HJ2;obtain⟨K5,K6,_,_,_⟩:=HM24.out;simp only [ruc,exR]at K6;have k50:=qcB K5 (i:=0) (u:=Z ga gn gc) rfl;have k51:=qcB K5 (i:=1) (u:=Z (V ⟨bT,0,X⟩) 3 3) rfl;have k60:=qcB K6 (i:=0) (u:=O M 1) rfl;have k61:=qcB K6 (i:=1) (u:=O Y 0) rfl;have k62:=qcB K6 (i:=2) (u:=O Y 4) rfl;have k63:=qcB K6 (i:=3) (u:=O Y 50) rfl;have k64:=qcB K6 (i:=4) (u:=O Y 10) rfl;have k65:=qcB K6 (i:=5) (u:=O Y 160) rfl;have k66:=qcB K6 (i:=6) (u:=O Y 5) rfl;clear K5 K6
  go_upto_region 24 with (go_at_call 15;(with_reducible refine(HJ2.out _ (eR wf)).mono ?_);rintro e w25 ⟨ja2,jc2,rfl,hx25⟩)
  have HM25:=hd9 (HM24.out.ext hx25);clear hx25 HJ2 k50 k51 k60 k61 k62 k63 k64 k65 k66 HM24;obtain⟨K5,K6,_,_,_⟩:=HM25.out;simp only [ruc,exR]at K6;have k50:=qcB K5 (i:=0) (u:=Z ga gn gc) rfl;have k51:=qcB K5 (i:=1) (u:=Z (V ⟨bT,0,X⟩) 3 3) rfl;have k60:=qcB K6 (i:=0) (u:=O M 1) rfl;have k61:=qcB K6 (i:=1) (u:=O Y 0) rfl;have k62:=qcB K6 (i:=2) (u:=O Y 4) rfl;have k63:=qcB K6 (i:=3) (u:=O Y 50) rfl;have k64:=qcB K6 (i:=4) (u:=O Y 10) rfl;have k65:=qcB K6 (i:=5) (u:=O Y 160) rfl;have k66:=qcB K6 (i:=6) (u:=O Y 5) rfl;clear K5 K6 k60 k61 k62 k63 k64 k65 k66;refine zap (fun i=>decide (6<i)) (CellL [(⟨b5,0,X⟩,Z ga gn gc),(⟨b5,1,X⟩,Z (V ⟨bT,0,X⟩) 3 3)]) (by kernel_rfl) ?_ (fun h9H=>?_)
  ·exact cA
  refine tu1 (i:=0) ?_;refine tu1 (i:=1) ?_;refine tu1 (i:=2) ?_;refine tu1 (i:=3) ?_;refine tu1 (i:=4) ?_;refine tu1 (i:=5) ?_;refine cu1 (i:=6) fun K hK=>?_
  go_simp;refine kO hK (fun _=>cE h9H ((eR _).alloc _)) (fun h9H=>?_);clear hK K;refine cu1 (i:=7) fun K hK=>?_
  go_simp;refine kO hK (fun h=>nomatch h) (fun h9H=>?_);clear hK K;refine doneHU (by kernel_rfl) ?_ _;have hEo:Ext w25 ((w25.alloc (J #[Z ga gn gc,Z (V ⟨bT,0,X⟩) 1 3] 33)).drew):=((eR w25).alloc _).drew;have hKo:((w25.alloc (J #[Z ga gn gc,Z (V ⟨bT,0,X⟩) 1 3] 33)).drew).heap[w25.heap.size]?=V (J #[Z ga gn gc,Z (V ⟨bT,0,X⟩) 1 3] 33 (0,0)):=aN _ _;obtain⟨wg,hwg⟩:=gX ((w25.alloc (J #[Z ga gn gc,Z (V ⟨bT,0,X⟩) 1 3] 33)).drew);rw [hwg]at hEo hKo ⊢;obtain⟨bo,hbo⟩:=gX w25.heap.size;rw [hbo]at hKo;simp only [hbo];have HM26:=hd9 (HM25.out.ext hEo);have o0:=qcB hKo (i:=0) (u:=Z ga gn gc) rfl;have o1:=qcB hKo (i:=1) (u:=Z (V ⟨bT,0,X⟩) 1 3) rfl;clear hwg hbo hEo hKo h9H k50 k51 HM25;have HLo:=hd9 (fun(W:I) (hW:Ext wg W)=>(zpq W _ _ exG [brickP ⟨#[97]⟩ 0 0] ⟨1,0,4,50,10,160,5⟩ (HM26.out.2.2.1.ext' hW) ((OwnPl.cut HM26.out.2.2.2.1 (m:=1) (by decide)).pls.ext' hW) (HG.out.ext (HM26.out.2.2.2.2.trans hW))).mono fun e w' h=>zpY h);unfold ruc at HLo;dsimp only at HLo;obtain⟨K5,K6,_,_,_⟩:=HM26.out;simp only [ruc,exR]at K6;have k50:=qcB K5 (i:=0) (u:=Z ga gn gc) rfl;have k51:=qcB K5 (i:=1) (u:=Z (V ⟨bT,0,X⟩) 3 3) rfl;have k60:=qcB K6 (i:=0) (u:=O M 1) rfl;have k61:=qcB K6 (i:=1) (u:=O Y 0) rfl;have k62:=qcB K6 (i:=2) (u:=O Y 4) rfl;have k63:=qcB K6 (i:=3) (u:=O Y 50) rfl;have k64:=qcB K6 (i:=4) (u:=O Y 10) rfl;have k65:=qcB K6 (i:=5) (u:=O Y 160) rfl;have k66:=qcB K6 (i:=6) (u:=O Y 5) rfl;clear K5 K6 k50 k51
  go_upto_region 26 with (go_at_call 19;(with_reducible refine(HLo.out _ (eR wg)).mono ?_);rintro e w27 ⟨rfl,hx27⟩)
  have HM27:=hd9 (HM26.out.ext hx27);clear hx27 HLo o0 o1 k60 k61 k62 k63 k64 k65 k66 HM26;obtain⟨K5,K6,_,_,_⟩:=HM27.out;simp only [ruc,exR]at K6;have k50:=qcB K5 (i:=0) (u:=Z ga gn gc) rfl;have k51:=qcB K5 (i:=1) (u:=Z (V ⟨bT,0,X⟩) 3 3) rfl;have k60:=qcB K6 (i:=0) (u:=O M 1) rfl;have k61:=qcB K6 (i:=1) (u:=O Y 0) rfl;have k62:=qcB K6 (i:=2) (u:=O Y 4) rfl;have k63:=qcB K6 (i:=3) (u:=O Y 50) rfl;have k64:=qcB K6 (i:=4) (u:=O Y 10) rfl;have k65:=qcB K6 (i:=5) (u:=O Y 160) rfl;have k66:=qcB K6 (i:=6) (u:=O Y 5) rfl;have f6:=qfB K6;clear K5 K6
  go_upto_region 27 with fail
  have hM28:=HM27.out.put6 hne Hb.out.2 0 (O M 3) (c:=ruc ⟨3,0,4,50,10,160,5⟩) rfl;obtain⟨wh,hwh⟩:=gX (w27.setCell ⟨b6,0,X⟩ (O M 3));rw [hwh]at hM28 ⊢;clear hwh k50 k51 k60 k61 k62 k63 k64 k65 k66 f6;have HM28:=hd9 hM28;clear hM28 HM27;have HJ3:=hd9 (fun(W:I) (hW:Ext wh W)=>(zeA W _ _ exG exT ⟨3,0,4,50,10,160,5⟩ (HM28.out.2.2.1.ext' hW) (HM28.out.2.2.2.1.pls.ext' hW) (HG.out.ext (HM28.out.2.2.2.2.trans hW))).mono fun e w' h=>zpG h);have HBb:=hd9 (fun(W:I) (hW:Ext wh W)=>(zpc W _ _ exG exT 5 5 0 10 (HM28.out.2.2.1.ext' hW) (HM28.out.2.2.2.1.pls.ext' hW) (HG.out.ext (HM28.out.2.2.2.2.trans hW))).mono fun e w' h=>zpA h);unfold ruc at HJ3;dsimp only at HJ3;obtain⟨K5,K6,_,_,_⟩:=HM28.out;simp only [ruc,exR]at K6;have k50:=qcB K5 (i:=0) (u:=Z ga gn gc) rfl;have k51:=qcB K5 (i:=1) (u:=Z (V ⟨bT,0,X⟩) 3 3) rfl;have k60:=qcB K6 (i:=0) (u:=O M 3) rfl;have k61:=qcB K6 (i:=1) (u:=O Y 0) rfl;have k62:=qcB K6 (i:=2) (u:=O Y 4) rfl;have k63:=qcB K6 (i:=3) (u:=O Y 50) rfl;have k64:=qcB K6 (i:=4) (u:=O Y 10) rfl;have k65:=qcB K6 (i:=5) (u:=O Y 160) rfl;have k66:=qcB K6 (i:=6) (u:=O Y 5) rfl;clear K5 K6
  go_wp2_with(first|(go_at_call 15;(with_reducible refine(HJ3.out _ (eR wh)).mono ?_);rintro e w29 ⟨rfl,hx29⟩;have k50:=hx29.cellS k50;have k51:=hx29.cellS k51)|(go_at_call 23;(with_reducible refine(HBb.out _ hx29).mono ?_);rintro e w30 ⟨rfl,hx30⟩))
  go_ret;exact⟨rfl,HM28.out.2.2.2.2.trans (hx29.trans hx30)⟩
end
section
open Go.ChangeShapes Go.WideShapes Go.Deep
section
variable {H:Type} {enc:TypeId×Value→H} {P:Program} {w:World} {spare:Nat→Bool} {held:Bool}
theorem zg3 {k:Nat}:∀{css:List (List Value)} {j:Nat} {x:Value},0<k→(∀c∈css,c.length=k)→css.flatten[j]?=some x→∃d,css[j / k]?=some d∧d[j % k]?=some x
 | [],j,x,_,_,h=>by simp at h
 | c::css,j,x,hk,hc,h=>by
  have hl:c.length=k:=hc c (by simp);rw [List.flatten_cons]at h
  by_cases hj:j<k
  ·rw [List.getElem?_append_left (by omega)]at h
   rw [Nat.div_eq_of_lt hj,Nat.mod_eq_of_lt hj];exact⟨c,rfl,h⟩
  ·rw [List.getElem?_append_right (by omega),hl]at h
   obtain⟨d,h1,h2⟩:=zg3 (j:=j-k) hk (fun c hc'=>hc c (mC _ hc')) h;rw [Nat.div_eq_sub_div hk (by omega),Nat.mod_eq_sub_mod (by omega)];exact⟨d,by simpa using h1,h2⟩
theorem zd9 {t e:TypeId} {k fuel:Nat} {cs:List Value} {x:DataW H×List MemPlace} (ht:P.underlying t=some (.slice e)) (hk:P.cellsOf e=k) (hk0:0<k)
  (h:DataW.trod enc P w 0 spare held fuel t cs=some x) :
  ∃(a:Option Addr) (n c:Nat) (T:TypeId) (css:List (List Value)),cs=[.slice a n c]∧css.length=n∧(∀d∈css,d.length=k)∧Rd w T k (.slice a n c) n css.flatten ∧
   ∀d∈css,∃m y,DataW.trod enc P w 0 spare held m e d=some y:=by
 rcases open_slice ht h with ⟨rfl,_⟩|⟨a,len,cap,m,f,D,Pl,rfl,_,hl,hm,hmm,_,hel⟩
 ·exact⟨none,0,0,0,[],rfl,rfl,by simp,Rd.nil w 0 k,by simp⟩
 ·have hlm:len≤m:=by rw [hmm];split<;>omega
  rw [hk]at hel;obtain⟨F,hF⟩:=choose_lt (α:=List Value) (n:=len) (p:=fun i d=>w.cells? 0 (a.add (i*k)) k=some d∧DataW.trod enc P w 0 spare held f e d=some (D i,Pl i)) (fun i hi=>hel i (by omega))
  have hlen:∀d∈(List.range len).map F,d.length=k:=by
   intro d hd;obtain⟨i,hi,rfl⟩:=List.mem_map.1 hd;exact(World.cells?_some (hF i (List.mem_range.1 hi)).1).2.1
  have hall:∀d∈(List.range len).map F,∃m y,DataW.trod enc P w 0 spare held m e d=some y:=by
   intro d hd;obtain⟨i,hi,rfl⟩:=List.mem_map.1 hd;exact⟨f,_,(hF i (List.mem_range.1 hi)).2⟩
  by_cases h0:len=0
  ·subst h0
   exact⟨some a,0,cap,0,[],rfl,rfl,by simp,⟨by simp,some a,cap,rfl,hl,hm,.inl ⟨rfl,fun e=>by cases e⟩⟩,by simp⟩
  ·have c0:=(World.cells?_some (hF 0 (by omega)).1).2.2 0 hk0
   have hcl:=hlen (F 0) (List.mem_map.2 ⟨0,List.mem_range.2 (by omega),rfl⟩);obtain⟨v0,hv0⟩:∃v,(F 0)[0]?=some v:=⟨(F 0)[0]'(by omega),by simp⟩;rw [hv0]at c0;obtain⟨b,o,sp⟩:=a
   have hsp:sp=none:=by
    have:=World.cell?_spot c0
    simpa [Addr.add] using this
   subst hsp;have e0:((⟨b,o,none⟩:Addr).add (0*k)).add 0=⟨b,o,none⟩:=by simp [Addr.add]
   rw [e0]at c0
   obtain⟨blk,T,fr,hblk⟩:∃blk T fr,w.heap[b]?=some (.cells blk T fr):=by
    unfold World.cell? at c0
    split at c0
    ·rename_i blk T fr hb;exact⟨blk,T,fr,hb⟩
    ·cases c0
   refine⟨some ⟨b,o,none⟩,len,cap,T,(List.range len).map F,rfl,by simp,hlen,⟨?_,some ⟨b,o,none⟩,cap,rfl,hl,hm,.inr ⟨b,o,blk,fr,rfl,hblk,fun j y hj=>?_⟩⟩,hall⟩
   ·rw [zaj hlen];simp
   ·obtain⟨d,h1,h2⟩:=zg3 hk0 hlen hj
    obtain⟨hi,rfl⟩:j / k<len∧F (j / k)=d:=by
     rw [lP]at h1
     by_cases hi:j / k<len
     ·rw [List.getElem?_range hi]at h1
      exact⟨hi,Option.some.inj h1⟩
     ·rw [List.getElem?_eq_none (by simpa using hi)]at h1
      cases h1
    have c1:=(World.cells?_some (hF (j / k) hi).1).2.2 (j % k) (Nat.mod_lt _ hk0);rw [h2]at c1
    have e1:((⟨b,o,none⟩:Addr).add (j / k*k)).add (j % k)=⟨b,o+j,none⟩:=by
     rw [add_add];have:j / k*k+j % k=j:=by rw [Nat.mul_comm];exact Nat.div_add_mod j k
     rw [this];unfold Addr.add
     split
     ·rename_i h;rw [h];rfl
     ·rfl
    rw [e1]at c1
    simpa [World.cell?,hblk] using c1
end
end
section
open Go.ChangeShapes Go.WideShapes Go.Deep
def flds (P:Program) (t:TypeId):Array Field:=match P.underlying t with|some (.struct fs)=>fs|_=>#[]
section
variable {H:Type} {enc:TypeId×Value→H} {w:World} {spare:Nat→Bool} {held:Bool}
theorem fld {P:Program} {fs:Array Field} {n i ti oi ki:Nat} {cs:List Value} {xs:List (DataW H×List MemPlace)} (hx:xs.length=fs.size)
  (hf:∀(i:Nat) (f:Field),fs[i]?=some f→DataW.trod enc P w 0 spare held n f.type ((cs.drop f.offset).take (P.cellsOf f.type))=xs[i]?)
  (hi:fs[i]?.map (fun f=>(f.type,f.offset,P.cellsOf f.type))=some (ti,oi,ki)):∃y,DataW.trod enc P w 0 spare held n ti ((cs.drop oi).take ki)=some y:=by
 cases h:fs[i]? with
 | none=>rw [h]at hi;cases hi
 | some f =>
  rw [h]at hi;simp only [Option.map_some,Option.some.injEq,Prod.mk.injEq]at hi;obtain⟨rfl,rfl,rfl⟩:=hi;have hl:i<xs.length:=by rw [hx];exact(Array.getElem?_eq_some_iff.1 h).1
  exact⟨xs[i],by rw [hf i f h];simp [hl]⟩
theorem zbm:Tryz.prog.underlying 3=some (.int .i64):=by kernel_rfl
theorem zmV:Tryz.prog.underlying 5=some (.int .u8):=by kernel_rfl
theorem znV:Tryz.prog.underlying 9=some .string:=by kernel_rfl
theorem zo5:Tryz.prog.underlying 88=some (.struct (flds Tryz.prog 88)):=by kernel_rfl
theorem zo6:Tryz.prog.underlying 90=some (.struct (flds Tryz.prog 90)):=by kernel_rfl
theorem zo4:Tryz.prog.underlying 92=some (.struct (flds Tryz.prog 92)):=by kernel_rfl
theorem zmW:Tryz.prog.underlying 25=some (.struct (flds Tryz.prog 25)):=by kernel_rfl
theorem znU:Tryz.prog.underlying 22=some (.slice 88):=by kernel_rfl
theorem znT:Tryz.prog.underlying 23=some (.slice 92):=by kernel_rfl
theorem zbK {n:Nat} {cs:List Value} {y:DataW H×List MemPlace} (h:DataW.trod enc Tryz.prog w 0 spare held n 88 cs=some y):∃p:Int×Int,cs=[.int .i64 p.1,.int .i64 p.2]:=by
 obtain⟨xs,m,_,_,hl,hx,hf⟩:=DataW.trod_struct zo5 h;have hc:Tryz.prog.cellsOf 88=2:=by kernel_rfl
 rw [hc]at hl;obtain⟨y0,h0⟩:=fld hx hf (i:=0) (ti:=3) (oi:=0) (ki:=1) (by kernel_rfl);obtain⟨y1,h1⟩:=fld hx hf (i:=1) (ti:=3) (oi:=1) (ki:=1) (by kernel_rfl)
 match cs,hl with
 | [a,b],_ =>
  obtain⟨x,e0,_⟩:=DataW.trod_int zbm h0;obtain⟨z,e1,_⟩:=DataW.trod_int zbm h1;simp at e0 e1;subst e0 e1;exact⟨(x,z),rfl⟩
theorem ziM {α:Type} {Q:List Value→α→Prop}:∀{css:List (List Value)},(∀d∈css,∃a,Q d a)→∃l:List α,css.length=l.length∧∀(i:Nat) d a,css[i]?=some d→l[i]?=some a→Q d a
 | [],_=>⟨[],rfl,fun i d a h=>by simp at h⟩
 | c::css,h=>by
  obtain⟨a,ha⟩:=h c (by simp);obtain⟨l,hl,has⟩:=ziM (css:=css) (fun d hd=>h d (mC _ hd));refine⟨a::l,by simp [hl],fun i d b hd hb=>?_⟩
  cases i with
  | zero=>simp at hd hb;subst hd hb;exact ha
  | succ i=>exact has i d b (by simpa using hd) (by simpa using hb)
theorem zcn {n:Nat} {v:Value} {y:DataW H×List MemPlace} (h:DataW.trod enc Tryz.prog w 0 spare held n 22 [v]=some y):∃ps,IsPr w v ps:=by
 obtain⟨a,m,c,T,css,e,hl,hk,hr,hd⟩:=zd9 znU (k:=2) (by kernel_rfl) (by omega) h
 cases e
 obtain⟨ps,hps,hq⟩:=ziM (α:=Int×Int) (Q:=PP w) (fun d h=>by
  obtain⟨f,y,hy⟩:=hd d h;obtain⟨p,hp⟩:=zbK hy;exact⟨p,hp⟩)
 exact⟨ps,T,css,hps,hk,by rw [←hps,hl];exact hr,hq⟩
theorem zen {n:Nat} {cs:List Value} {y:DataW H×List MemPlace} (h:DataW.trod enc Tryz.prog w 0 spare held n 92 cs=some y):∃p:Pl,PPr w cs p:=by
 obtain⟨xs,m,_,_,hl,hx,hf⟩:=DataW.trod_struct zo4 h;have hc:Tryz.prog.cellsOf 92=10:=by kernel_rfl
 rw [hc]at hl;obtain⟨y0,h0⟩:=fld hx hf (i:=0) (ti:=90) (oi:=0) (ki:=6) (by kernel_rfl);obtain⟨y1,h1⟩:=fld hx hf (i:=1) (ti:=3) (oi:=6) (ki:=1) (by kernel_rfl);obtain⟨y2,h2⟩:=fld hx hf (i:=2) (ti:=88) (oi:=7) (ki:=2) (by kernel_rfl);obtain⟨y3,h3⟩:=fld hx hf (i:=3) (ti:=5) (oi:=9) (ki:=1) (by kernel_rfl)
 match cs,hl with
 | [a0,a1,a2,a3,a4,a5,a6,a7,a8,a9],_ =>
  obtain⟨zs,k,_,_,_,hz,hg⟩:=DataW.trod_struct zo6 h0;obtain⟨z0,g0⟩:=fld hz hg (i:=0) (ti:=9) (oi:=0) (ki:=1) (by kernel_rfl);obtain⟨z1,g1⟩:=fld hz hg (i:=1) (ti:=22) (oi:=1) (ki:=1) (by kernel_rfl);obtain⟨z2,g2⟩:=fld hz hg (i:=2) (ti:=3) (oi:=2) (ki:=1) (by kernel_rfl);obtain⟨z3,g3⟩:=fld hz hg (i:=3) (ti:=3) (oi:=3) (ki:=1) (by kernel_rfl);obtain⟨z4,g4⟩:=fld hz hg (i:=4) (ti:=88) (oi:=4) (ki:=2) (by kernel_rfl);obtain⟨nm,e0,_⟩:=DataW.trod_string znV g0;obtain⟨sh,hsh⟩:=zcn g1;obtain⟨de,e2,_⟩:=DataW.trod_int zbm g2;obtain⟨dn,e3,_⟩:=DataW.trod_int zbm g3;obtain⟨gr,e4⟩:=zbK g4;obtain⟨wy,e6,_⟩:=DataW.trod_int zbm h1;obtain⟨at9,e7⟩:=zbK h2;obtain⟨sk,e9,_,wsk⟩:=DataW.trod_int zmV h3;simp at e0 e2 e3 e4 e6 e7 e9;obtain⟨rfl,rfl⟩:=e4;obtain⟨rfl,rfl⟩:=e7;subst e0 e2 e3 e6 e9;refine⟨⟨nm,sh,de,dn,gr.1,gr.2,wy,at9.1,at9.2,sk⟩,_,rfl,hsh,?_⟩;have w9:decide (IntKind.u8.min≤sk)=true:=by unfold Lit.wf at wsk;simp only [Bool.and_eq_true]at wsk;exact wsk.1
  have w8:IntKind.u8.min=0:=by decide
  rw [w8]at w9;exact of_decide_eq_true w9
theorem zdY {n:Nat} {v:Value} {y:DataW H×List MemPlace} (h:DataW.trod enc Tryz.prog w 0 spare held n 23 [v]=some y):∃ps,IsWr w v ps:=by
 obtain⟨a,m,c,T,css,e,hl,hk,hr,hd⟩:=zd9 znT (k:=10) (by kernel_rfl) (by omega) h
 cases e
 obtain⟨ps,hps,hq⟩:=ziM (α:=Pl) (Q:=PPr w) (fun d h=>by
  obtain⟨f,y,hy⟩:=hd d h;exact zen hy)
 exact⟨ps,T,css,hps,hk,by rw [←hps,hl];exact hr,hq⟩
theorem zfW {r:Reach} {b0:Nat} {v:Value} {d:DataW H} {p:List MemPlace} (hv:Value.okWide Tryz.prog w r b0 25 v) (h:DataW.Trod enc Tryz.prog w 0 spare held 25 v d p) :
  ∃vg vp g ps,v = .agg #[vg,vp]∧IsPr w vg g∧IsWr w vp ps:=by
 obtain⟨cs,rfl,hsz⟩:=okWide_struct zmW hv;have hc:Tryz.prog.cellsOf 25=2:=by kernel_rfl
 rw [hc]at hsz
 obtain⟨c0,c1,rfl⟩:∃a b,cs=#[a,b]:=by
  match cs,hsz with
  | ⟨[a,b]⟩,_=>exact⟨a,b,rfl⟩
 obtain⟨fuel,hf⟩:=h;obtain⟨xs,m,_,_,hl,hx,hg⟩:=DataW.trod_struct zmW hf;obtain⟨y0,h0⟩:=fld hx hg (i:=0) (ti:=22) (oi:=0) (ki:=1) (by kernel_rfl);obtain⟨y1,h1⟩:=fld hx hg (i:=1) (ti:=23) (oi:=1) (ki:=1) (by kernel_rfl);obtain⟨g,h2⟩:=zcn (v:=c0) h0;obtain⟨ps,h3⟩:=zdY (v:=c1) h1;exact⟨c0,c1,g,ps,rfl,h2,h3⟩
end
end
end Go.Proofs.YteipgejmhfpkaaaGreatDoor.Cop
