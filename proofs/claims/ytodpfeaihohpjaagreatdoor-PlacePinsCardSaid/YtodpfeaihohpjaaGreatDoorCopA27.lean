/- Part 28: contracts of what the law calls. -/
import Derived.Test.YtodpfeaihohpjaaGreatDoorCopA26
import Derived.Test.YtodpfeaihohpjaaGreatDoorCopA11
import Derived.Test.YtodpfeaihohpjaaGreatDoorCopA16
import Derived.Test.YtodpfeaihohpjaaGreatDoorCopA15
import Derived.Test.YtodpfeaihohpjaaGreatDoorCopA22
import Derived.Test.YtodpfeaihohpjaaGreatDoorCopA23
set_option maxRecDepth 1000000
set_option maxHeartbeats 16000000
set_option linter.unusedSimpArgs false
set_option linter.unusedVariables false
open Go.Value renaming int→O,slice→Z,agg→N
open Go.IntKind renaming i64→Y,u8→C
open Option renaming none→X,some→J
open Go renaming World→V,Value→I
open Go.Obj renaming cells→M
namespace Go.Proofs.YtodpfeaihohpjaaGreatDoor.Cop
section
open Go.RowKit Go.Shelf Go.Sort Go.Lib
theorem gb_Ext {a b c : World} {k : Nat} (h : Ext a b) (g : b.grownBy c (Option.some k)) (hk : a.heap.size ≤ k) : Ext a c :=
  ⟨g.os.trans h.os, g.tape.trans h.tape, g.output.trans h.output, Nat.le_trans h.size g.size, fun i hi => (g.block i (Nat.lt_of_lt_of_le hi h.size) (by simp; omega)).trans (h.block hi)⟩
theorem gb_below {a b c : World} {row : Option Nat} (h : a.grownBy b row) (k : Below a.heap.size b c) : a.grownBy c row :=
  ⟨k.os.trans h.os, k.tape.trans h.tape, k.output.trans h.output, Nat.le_trans h.size k.size, fun i hi hne => (k.block i hi).trans (h.block i hi hne)⟩
theorem gb_refl (a : World) (row : Option Nat) : a.grownBy a row := ⟨rfl, rfl, rfl, Nat.le_refl _, fun _ _ _ => rfl⟩
theorem gb_keepT {a b : World} {k : Nat} {T T' : TypeId} {cs : Array Value} {fr : Nat × Nat} (g : a.grownBy b (Option.some k)) (hk : a.heap[k]? = Option.some (Obj.cells cs T' fr)) (hT : T' ≠ T) : KeepT T a b :=
  fun x c f hx => (g.block x (Array.getElem?_eq_some_iff.1 hx).1 (fun e => by cases e; rw [hx] at hk; cases hk; exact hT rfl)).trans hx
theorem zcM (w:V) (hgw:Gw w):Calls Tryz.prog 10 #[] w fun e w'=>e = .returned (.bool true)∧Ext w w':=by
 have Hgw:=hd9 hgw;have HR:=hd9 (fun(W:V) (hW:Ext w W) (v1 v2:I) (h1:IsPts W v1 brickS) (h2:IsPts W v2 brickS)=>zmT W v1 v2 h1 h2 (hgw.ext hW));have HB:=hd9 (fun(W:V) (hW:Ext w W) (vg vp:I) (hg:IsPts W vg exG) (hp:IsPls W vp ex3)=>zl2 W vg vp hg hp (hgw.ext hW));have HD:=hd9 (fun(W:V) (hW:Ext w W) (vg vp v:I) (hg:IsPts W vg exG) (hp:IsPls W vp ex3) (hv:IsPts W v brickS)=>zl4 W vg vp v hg hp hv (hgw.ext hW));unfold exA exB at HR;unfold exD at HD;have E0:=eR w;clear hgw;go_enter Tryz.func10,Tryz.ntmps10
 go_upto_region 2 with (first|(go_at_call 33;(with_reducible refine(zbg _ ⟨#[97]⟩ 0 0).mono ?_);rintro e w1 ⟨v1,rfl,hv1,hx1⟩;have E1:Ext w w1:=E0.trans hx1)|(go_at_call 33;(with_reducible refine(zbg _ ⟨#[98]⟩ 200 0).mono ?_);rintro e w2 ⟨v2,rfl,hv2,hx2⟩;have E2:Ext w w2:=E1.trans hx2)|(go_at_call 12;(with_reducible refine(HR.out _ E2 _ _ (hv1.ext' hx2) hv2).mono ?_);rintro e w3 ⟨rfl,hx3⟩;have E3:Ext w w3:=E2.trans hx3))
 clear hx1 hx2 hx3 hv1 hv2
 go_upto_region 3 with (first|(go_at_call 34;(with_reducible refine(zf2 _).mono ?_);rintro e w4 ⟨vg4,vp4,rfl,hg4,hp4,hx4⟩;have E4:Ext w w4:=E3.trans hx4)|(go_at_call 16;(with_reducible refine(HB.out _ E4 _ _ hg4 hp4).mono ?_);rintro e w5 ⟨vb,rfl,hb,hx5⟩;obtain⟨ba,bn,bc,rfl⟩:=hb.form3;have E5:Ext w w5:=E4.trans hx5))
 clear hx4 hx5 hg4 hp4
 go_upto_region 4 with (first|(go_at_call 34;(with_reducible refine(zf2 _).mono ?_);rintro e w6 ⟨vg6,vp6,rfl,hg6,hp6,hx6⟩;have E6:Ext w w6:=E5.trans hx6)|(go_at_call 33;(with_reducible refine(zbg _ ⟨#[100]⟩ 50 300).mono ?_);rintro e w7 ⟨v7,rfl,hv7,hx7⟩;have E7:Ext w w7:=E6.trans hx7)|(go_at_call 15;(with_reducible refine(HD.out _ E7 _ _ _ (hg6.ext' hx7) (hp6.ext' hx7) hv7).mono ?_);rintro e w8 ⟨rfl,hx8⟩;have E8:Ext w w8:=E7.trans hx8))
 have hb:=hb.ext ((hx6.trans hx7).trans hx8);clear hx6 hx7 hx8 hg6 hp6 hv7 E0 E1 E2 E3 E4 E5 E6 E7 HR HB HD;obtain rfl:=zcW hb;obtain⟨g,a1,m1,c1,s1,b1,n1,d1,a2,m2,c2,s2,b2,n2,d2,a3,m3,c3,s3,b3,n3,d3,a4,m4,c4,s4,b4,n4,d4,rfl,hg1,hg2,hc,r1,r2,r3,r4⟩:=zhd hb (k:=0) rfl;obtain⟨g',a5,m5,c5,s5,b5,n5,d5,a6,m6,c6,s6,b6,n6,d6,a7,m7,c7,s7,b7,n7,d7,a8,m8,c8,s8,b8,n8,d8,e,hg1',hg2',hc',r5,r6,r7,r8⟩:=zhd hb (k:=1) rfl;obtain rfl:g=g':=by cases e;rfl
 simp only [CellL,Nat.reduceMul,Nat.reduceAdd,and_true]at hc hc';obtain⟨q0,q1,q2,q3,q4,q5,q6,q7,q8,q9,q10,q11,q12,q13,q14,q15,q16⟩:=hc;obtain⟨p0,p1,p2,p3,p4,p5,p6,p7,p8,p9,p10,p11,p12,p13,p14,p15,p16⟩:=hc';clear e hg1' hg2' hg1;have E:=hd9 E8;clear E8 hb
 go_wp2_with(first|(go_at_call 37;(with_reducible refine(zl5 _ _ _ _ _ _ _ _ _ _ _ _ _ _ _ (r1.ext ?_) (r2.ext ?_)).mono ?_);exact eA;exact eA;rintro e w11 ⟨rfl,hx11⟩;obtain⟨hc11,hf11⟩:=hx11.cells;(have z11:g<w11.heap.size:=by have:=hx11.size;omega))|(go_at_call 37;(with_reducible refine(zgV _ _ _ _ _ _ _ _ _ _ _ _ _ _ _ (r3.ext ?_) (r4.ext ?_)).mono ?_);exact eA;exact eA;rintro e w12 ⟨rfl,hx12⟩;obtain⟨hc12,hf12⟩:=hx12.cells;(have z12:g<w12.heap.size:=by have:=hx12.size;omega))|(go_at_call 37;(with_reducible refine(zgV _ _ _ _ _ _ _ _ _ _ _ _ _ _ _ (r5.ext ?_) (r6.ext ?_)).mono ?_);exact eA;exact eA;rintro e w13 ⟨rfl,hx13⟩;obtain⟨hc13,hf13⟩:=hx13.cells;(have z13:g<w13.heap.size:=by have:=hx13.size;omega)))
 go_ret;exact⟨rfl,((E.out.trans hx11).trans hx12).trans hx13⟩
end
section
open Go.RowKit Go.Shelf Go.Sort
def IsPr (w:V) (v:I) (ps:List (Int×Int)):Prop:=∃T,Sl T 2 PP w v ps
theorem IsPr.ext' {w w':V} {v:I} {ps:List (Int×Int)} (h:IsPr w v ps) (k:Ext w w'):IsPr w' v ps:=by obtain⟨T,h⟩:=h;exact⟨T,Sl.ext (w:=w) (w':=w') h (fun _ _ h=>h) k⟩
theorem IsPr.form {w:V} {v:I} {ps:List (Int×Int)} (h:IsPr w v ps):∃a c,v=Z a ps.length c:=h.elim fun _ h=>Sl.form h
theorem IsPr.form3 {w:V} {v:I} {ps:List (Int×Int)} (h:IsPr w v ps):∃a n c,v=Z a n c:=h.elim fun _ h=>Cop.form3 h
theorem IsPr.len {w:V} {a:Option Addr} {n c:Nat} {ps:List (Int×Int)} (h:IsPr w (Z a n c) ps):n=ps.length:=h.elim fun _ h=>Sl.len h
theorem IsPr.le {w:V} {a:Option Addr} {n c:Nat} {ps:List (Int×Int)} (h:IsPr w (Z a n c) ps):ps.length≤c∧c≤maxLen:=h.elim fun _ h=>Sl.le h
theorem IsPr.at' {w:V} {a:Option Addr} {n c:Nat} {ps:List (Int×Int)} (h:IsPr w (Z a n c) ps) {i:Nat} {p:Int×Int} (hp:ps[i]?=J p) :
  ∃b o,a=J ⟨b,o,X⟩∧b<w.heap.size∧w.cell? ⟨b,o+i*2,X⟩=J (O Y p.1)∧w.cell? ⟨b,o+i*2+1,X⟩=J (O Y p.2):=by
 obtain⟨T,h⟩:=h;obtain⟨b,o,d,rfl,hb,hl,hP,hc⟩:=Sl.at h hp;have hP':d=[O Y p.1,O Y p.2]:=hP;subst hP';exact⟨b,o,rfl,hb,hc 0 _ rfl,hc 1 _ rfl⟩
def PPr (w:V) (c:List I) (p:Pl):Prop:=∃v,c=(plc p v).toList∧IsPr w v p.shape∧0≤p.skin
def IsWr (w:V) (v:I) (ps:List Pl):Prop:=∃T,Sl T 10 PPr w v ps
theorem IsWr.ext' {w w':V} {v:I} {ps:List Pl} (h:IsWr w v ps) (k:Ext w w'):IsWr w' v ps:=by obtain⟨T,h⟩:=h;exact⟨T,Sl.ext (w:=w) (w':=w') h (fun _ _ ⟨v,h1,h2,h3⟩=>⟨v,h1,h2.ext' k,h3⟩) k⟩
theorem IsWr.form {w:V} {v:I} {ps:List Pl} (h:IsWr w v ps):∃a c,v=Z a ps.length c:=h.elim fun _ h=>Sl.form h
theorem IsWr.form3 {w:V} {v:I} {ps:List Pl} (h:IsWr w v ps):∃a n c,v=Z a n c:=h.elim fun _ h=>Cop.form3 h
theorem IsWr.len {w:V} {a:Option Addr} {n c:Nat} {ps:List Pl} (h:IsWr w (Z a n c) ps):n=ps.length:=h.elim fun _ h=>Sl.len h
theorem IsWr.le {w:V} {a:Option Addr} {n c:Nat} {ps:List Pl} (h:IsWr w (Z a n c) ps):ps.length≤c∧c≤maxLen:=h.elim fun _ h=>Sl.le h
theorem IsWr.at' {w:V} {a:Option Addr} {n c:Nat} {ps:List Pl} (h:IsWr w (Z a n c) ps) {i:Nat} {p:Pl} (hp:ps[i]?=J p) :
  ∃b o v,a=J ⟨b,o,X⟩∧b<w.heap.size∧IsPr w v p.shape∧0≤p.skin∧∀(j:Nat) u,(plc p v)[j]?=J u→w.cell? ⟨b,o+i*10+j,X⟩=J u:=by
 obtain⟨T,h⟩:=h;obtain⟨b,o,d,rfl,hb,hl,⟨v,rfl,h1,h2⟩,hc⟩:=Sl.at h hp;exact⟨b,o,v,rfl,hb,h1,h2,fun j u hj=>hc j u (by rw [Array.getElem?_toList];exact hj)⟩
def longB (p:Pl):Bool:=decide (20<p.shape.length) || decide (40<p.name.size)
theorem zg8 (w:V) (nm:ByteArray) (v:I) (sh:List (Int×Int)) (d de gx gz:Int) (h:IsPr w v sh) :
  Calls Tryz.prog 9 #[N #[.string nm,v,O Y d,O Y de,O Y gx,O Y gz]] w fun e w'=>e = .returned (.bool (decide (20<sh.length) || decide (40<nm.size)))∧Ext w w':=by
 obtain⟨a,c,rfl⟩:=h.form;obtain⟨n,hn⟩:=gX sh.length;rw [hn];obtain⟨m,hm⟩:=gX nm.size
 by_cases h1:20<n
 ·have h1':(20:Int)<(n:Int):=by omega
  have e:(decide (20<n) || decide (40<nm.size))=true:=by simp [h1]
  rw [e];clear h1 e hm;go_enter Tryz.func9,Tryz.ntmps9;go_wp2;go_ret;exact⟨rfl,eA⟩
 ·have h1':¬(20:Int)<(n:Int):=by omega
  have e:(decide (20<n) || decide (40<nm.size))=decide (40<m):=by simp [h1,hm]
  rw [e];clear h1 e;go_enter Tryz.func9,Tryz.ntmps9;go_wp2;go_ret;exact⟨by simp;omega,eA⟩
def fewB (g:List (Int×Int)) (ps:List Pl):Bool:=!ps.any longB&&(decide (ps.length≤8)&&decide (g.length≤50))
def FwS (w:V) (vg vp:I) (ps:List Pl) (g:Nat) (t3:I) (W:V):Prop:=
 ∃i:Nat,i≤ps.length∧t3=O Y (i:Nat)∧g=ps.length-i∧Ext w W∧W.heap[w.heap.size]?=J (M #[vg,vp] 46 (0,0))∧∀j y,j<i→ps[j]?=J y→longB y=false
theorem zgo (w:V) (vg vp:I) (g:List (Int×Int)) (ps:List Pl) (hg:IsPr w vg g) (hp:IsWr w vp ps) :
  Calls Tryz.prog 13 #[N #[vg,vp]] w fun e w'=>e = .returned (.bool (fewB g ps))∧Ext w w':=by
 obtain⟨ga,gc,rfl⟩:=hg.form;obtain⟨pa,pc,rfl⟩:=hp.form;obtain⟨n,hn⟩:=gX ps.length;obtain⟨m,hm⟩:=gX g.length;have hle:=hp.le;rw [hm];rw [hn]at hp hle ⊢;unfold maxLen at hle;have hnc:n≤9223372036854775807:=by omega
 have Hn:=hd9 hn;have Hm:=hd9 hm;have Hp:=hd9 hp;obtain⟨fb,hfb⟩:=gX (fewB g ps);rw [hfb];have Hfb:=hd9 hfb;clear hn hle hg hp hm hfb;go_enter Tryz.func13,Tryz.ntmps13;go_wp2
 go_loopg [3] n (FwS w (Z ga m gc) (Z pa n pc) ps)
 case atStart=>exact⟨0,by omega,rfl,by rw [Hn.out];rfl,eA,aN w _,fun j y hj=>by omega⟩
 case round =>
  obtain⟨i,hi,rfl,rfl,hx,hb0,hall⟩:=hrel;rw [Hn.out]at hi;have w0:=qcB hb0 (i:=0) (u:=Z ga m gc) rfl;have w1:=qcB hb0 (i:=1) (u:=Z pa n pc) rfl;have Hall:=hd9 hall;have Hx:=hd9 hx;have Hb0:=hd9 hb0;clear hall
  by_cases hlt:i<n
  ·obtain⟨p,hq⟩:∃q,ps[i]?=J q:=⟨ps[i]'(by rw [Hn.out];omega),by simp [Hn.out,hlt]⟩
   obtain⟨b,o,v,rfl,hb,hv,_,hc⟩:=(Hp.out.ext' hx).at' hq;have HL:=hd9 (fun W (hW:Ext wr W)=>zg8 W p.name v p.shape p.depth p.density p.gx p.gz (hv.ext' hW));obtain⟨lb,hlb⟩:=gX (longB p);rw [show (decide (20<p.shape.length) || decide (40<p.name.size))=lb from hlb]at HL;have Hlb:=hd9 hlb;obtain⟨va,vn,vc,rfl⟩:=hv.form3;have cc0:=hc 0 (.string p.name) rfl;have cc1:=hc 1 (Z va vn vc) rfl;have cc2:=hc 2 (O Y p.depth) rfl;have cc3:=hc 3 (O Y p.density) rfl;have cc4:=hc 4 (O Y p.gx) rfl;have cc5:=hc 5 (O Y p.gz) rfl;simp only [Nat.add_zero]at cc0;have Hq:=hd9 hq;have p1:(0:Int)≤(i:Int):=by omega
   have p2:(i:Int)<(n:Int):=by omega
   clear hc hq hv hlb hx hb0
   cases lb with
   | true =>
    have e:fb=false:=by
     rw [←Hfb.out];unfold fewB;rw [show ps.any longB=true from List.any_eq_true.2 ⟨p,lM Hq.out,Hlb.out⟩];rfl
    subst e
    go_wp2_with(go_at_call 9;(with_reducible refine(HL.out _ (eR _)).mono ?_);rintro e w1 ⟨rfl,hx1⟩)
    go_ret;exact⟨rfl,Hx.out.trans hx1⟩
   | false =>
    go_wp2_with(go_at_call 9;(with_reducible refine(HL.out _ (eR _)).mono ?_);rintro e w1 ⟨rfl,hx1⟩)
    go_roundg (n-(i+1))
    case measure=>have:=Hn.out;omega
    case rel =>
     refine⟨i+1,by have:=Hn.out;omega,by go_num,by rw [Hn.out],Hx.out.trans hx1,hx1.heapS Hb0.out,fun j y hj hy=>?_⟩
     by_cases hji:j=i
     ·subst hji;rw [Hq.out]at hy;cases hy;exact Hlb.out
     ·exact Hall.out j y (by omega) hy
  ·obtain rfl:n=i:=by omega
   have e:fb=(decide (n≤8)&&decide (m≤50)):=by
    rw [←Hfb.out];unfold fewB
    rw [show ps.any longB=false from by
     rw [List.any_eq_false];intro p hp;obtain⟨j,hj⟩:=List.mem_iff_getElem?.1 hp;rw [Hall.out j p (by have:=(lS.1 hj).1;rw [Hn.out]at this;exact this) hj]
     decide,Hn.out,Hm.out]
    rfl
   subst e
   by_cases h8:n≤8
   ·have h8':(n:Int)≤8:=by omega
    go_wp2;go_ret;exact⟨by simp [h8];try omega,Hx.out⟩
   ·have h8':¬(n:Int)≤8:=by omega
    go_wp2;go_ret;exact⟨by simp [h8],Hx.out⟩
def IntS (w:V) (xs ys:List Int) (g:Nat) (t5:I) (W:V):Prop:=
 ∃i:Nat,i≤xs.length∧t5=O Y (i:Nat)∧g=xs.length-i∧Ext w W∧∀j,j<i→xs[j]?=ys[j]?
theorem za9 {g:List (Int×Int)} {ps:List Pl} (h:fewB g ps=true):g.length≤1000∧ps.length≤8∧∀p∈ps,p.shape.length≤1000:=by
 unfold fewB at h;simp only [Bool.and_eq_true,Bool.not_eq_true',List.any_eq_false,decide_eq_true_eq]at h;obtain⟨h1,h2,h3⟩:=h;refine⟨by omega,h2,fun p hp=>?_⟩;have:=h1 p hp;unfold longB at this;simp only [Bool.or_eq_true,decide_eq_true_eq,not_or]at this;omega
def PtS (w:V) (ps:List (Int×Int)) (g:Nat) (t3 t4:I) (W:V):Prop:=
 ∃i:Nat,i≤ps.length∧t4=O Y (i:Nat)∧g=ps.length-i∧Ext w W∧OwnC 33 2 W w.heap.size t3 ((ps.take i).map pc)
theorem zeG (w:V) (v:I) (ps:List (Int×Int)) (h:IsPr w v ps) (hn9:ps.length≤1000) :
  Calls Tryz.prog 43 #[v] w fun e w'=>∃v',e = .returned v'∧OwnC 33 2 w' w.heap.size v' (ps.map pc)∧Ext w w':=by
 obtain⟨a,c,rfl⟩:=h.form;obtain⟨n,hn⟩:=gX ps.length;rw [hn]at h hn9 ⊢;have Hn:=hd9 hn;have H:=hd9 h;obtain⟨R,hR⟩:∃R:Ending→V→Prop,(fun e w'=>∃v',e = .returned v'∧OwnC 33 2 w' w.heap.size v' (ps.map pc)∧Ext w w')=R:=⟨_,rfl⟩;rw [hR];have HR:=hd9 hR;clear hn h hR;go_enter Tryz.func43,Tryz.ntmps43;go_wp2
 go_loopg [3,4] n (PtS w ps)
 case atStart=>exact⟨0,by omega,rfl,by rw [Hn.out];rfl,eR _,by simpa using OwnC.nil _ _ _ _⟩
 case round =>
  obtain⟨i,hi,rfl,rfl,hx,hown⟩:=hrel;rw [Hn.out]at hi;obtain⟨va,vn,vc,rfl⟩:=hown.form3;have Hown:=hd9 hown;have Hx:=hd9 hx
  by_cases hlt:i<n
  ·obtain⟨⟨x,z⟩,hq⟩:∃q,ps[i]?=J q:=⟨ps[i]'(by rw [Hn.out];omega),by simp [Hn.out,hlt]⟩
   obtain⟨b,o,rfl,hb,d0,d1⟩:=(H.out.ext' hx).at' hq;obtain⟨b0,o0,e0,hb0,_⟩:=H.out.at' hq
   cases e0
   dsimp only at d0 d1;have Hq:=hd9 hq;have p1:(0:Int)≤(i:Int):=by omega
   have p2:(i:Int)<(n:Int):=by omega
   clear hq hx hown;go_wp2;refine wp_region_held_drew (S:=CellL [(⟨b,o+i*2,X⟩,O Y x),(⟨b,o+i*2+1,X⟩,O Y z)]) (by kernel_rfl) ⟨d0,d1,trivial⟩ (fun h9H=>?_);refine sN 0 ?_
   iterate 12
    refine tkn ?_
   refine oN ?_;refine cl1 (i:=12) fun K hK=>?_
   go_simp;refine kO hK (cE h9H ((eR _).alloc _)) (fun h9H=>?_);clear hK K;have hA:Ext wr ((wr.alloc (M #[O Y x,O Y z] 33)).drew):=((eR wr).alloc _).drew;refine cl1 (i:=13) fun K hK=>?_
   refine zbW (T:=33) (t:=32) (z:=N #[O Y 0,O Y 0]) (k:=2) (bytes:=16) (v:=Z va vn vc) (base:=w.heap.size) zbD rfl (by decide) (by decide) Tryz.underlying32 rfl _ _ rfl rfl (Hown.out.ext hA) (ad:=⟨wr.heap.size,0,X⟩) (m:=1) (c:=1) rfl [pc (x,z)] rfl (by simp [pc]) (by exact zjx wr x z 33) (zlL x z) (by rw [lL,List.length_take];omega) (by have:=hA.size;have:=Hx.out.size;omega) ?_;intro v' w9 hown9 hgrow hlie;obtain⟨a9,n9,c9,rfl⟩:=hown9.form3;have zb:b<wr.heap.size:=hb;refine kO hK (CellL.grown h9H hgrow (fun q hq e=>?_)) (fun h9H=>?_)
   ·have h9:=(Hown.out.lt _ e.symm).1
    simp at hq
    rcases hq with rfl|rfl<;>(dsimp only at h9;omega)
   clear hK K;refine tk1 (i:=14) ?_;refine wpAnyH_done (by kernel_rfl) ?_ _;go_wp2
   go_roundg (n-(i+1))
   case measure=>have:=Hn.out;omega
   case rel =>
    refine⟨i+1,by have:=Hn.out;omega,by go_num,by rw [Hn.out],(Hx.out.trans hA).thenB (zad (base:=w.heap.size) hgrow (by have:=hA.size;have:=Hx.out.size;omega) (fun k hk=>(Hown.out.lt k hk).1)) (nE _),?_⟩;rw [zab _ _ _ Hq.out,List.map_append];exact hown9
  ·obtain rfl:n=i:=by omega
   have e:ps.take n=ps:=lT (by rw [Hn.out];exact nE _);rw [e]at hown;go_wp2;rw [←HR.out];exact⟨_,rfl,hown,hx⟩
theorem zkc (w:V) (nm:ByteArray) (v:I) (sh:List (Int×Int)) (d de gx gz:Int) (h:IsPr w v sh) (hn9:sh.length≤1000) :
  Calls Tryz.prog 40 #[N #[.string nm,v,O Y d,O Y de,O Y gx,O Y gz]] w fun e w'=>∃v',e = .returned (N #[.string nm,v',O Y d,O Y de,O Y gx,O Y gz])∧IsPts w' v' sh∧Ext w w'∧∀j,v'.ownBlock=J j→w.heap.size≤j:=by
 have HP:=hd9 (fun W (hW:Ext w W)=>zeG W v sh (h.ext' hW) hn9);obtain⟨a,n,c,rfl⟩:=h.form3;clear h;go_enter Tryz.func40,Tryz.ntmps40;go_wp2;refine wp_region_held_drew (S:=CellL [(⟨w.heap.size,0,X⟩,.string nm),(⟨w.heap.size,1,X⟩,Z a n c),(⟨w.heap.size,2,X⟩,O Y d),(⟨w.heap.size,3,X⟩,O Y de),(⟨w.heap.size,4,X⟩,O Y gx),(⟨w.heap.size,5,X⟩,O Y gz)]) (by kernel_rfl) cA (fun h9H=>?_);refine sN 0 ?_
 iterate 4
  refine tkn ?_
 refine oN ?_;refine sN 5 ?_
 iterate 11
  refine tkn ?_
 refine oN ?_;refine cl1 (i:=4) fun K hK=>?_
 go_simp
 (with_reducible refine cM (HP.out _ eA) ?_)
 rintro e w3 ⟨v3,rfl,hown3,hx3⟩;obtain⟨a3,n3,c3,rfl⟩:=hown3.form3
 go_wp2_with fail
 refine kO hK (cE h9H hx3) (fun h9H=>?_);clear hK K;refine tk1 (i:=16) ?_;have hv3:=hown3.pts;have K3:=hx3.heapS (zek w (M #[.string nm,Z a n c,O Y d,O Y de,O Y gx,O Y gz] 26) (M #[.string ⟨#[]⟩,Z X 0 0,O Y 0,O Y 0,O Y 0,O Y 0] 35));have k0:=qcB K3 (i:=0) (u:=.string ⟨#[]⟩) rfl;have k1:=qcB K3 (i:=1) (u:=Z X 0 0) rfl;have k2:=qcB K3 (i:=2) (u:=O Y 0) rfl;have k3:=qcB K3 (i:=3) (u:=O Y 0) rfl;have k4:=qcB K3 (i:=4) (u:=O Y 0) rfl;have k5:=qcB K3 (i:=5) (u:=O Y 0) rfl;have kf:=qfB K3
 have Hne:=hd9 (show ∀q∈[((⟨w.heap.size,0,X⟩:Addr),Value.string nm),(⟨w.heap.size,1,X⟩,Z a n c),(⟨w.heap.size,2,X⟩,O Y d),(⟨w.heap.size,3,X⟩,O Y de),(⟨w.heap.size,4,X⟩,O Y gx),(⟨w.heap.size,5,X⟩,O Y gz)],w.heap.size+1≠q.1.block from fun q hq h=>by
  simp at hq
  rcases hq with rfl|rfl|rfl|rfl|rfl|rfl<;>(dsimp only at h;omega))
 have hX3:Ext w w3:=((((eR w).alloc _).alloc _).drew).trans hx3;have HK3:=hd9 K3;clear K3;refine cl1 (i:=17) fun K hK=>?_
 go_simp;refine kO hK (CellL.set (p:=⟨w.heap.size+1,5,X⟩) (CellL.set (p:=⟨w.heap.size+1,4,X⟩) (CellL.set (p:=⟨w.heap.size+1,3,X⟩) (CellL.set (p:=⟨w.heap.size+1,2,X⟩) (CellL.set (p:=⟨w.heap.size+1,1,X⟩) (CellL.set (p:=⟨w.heap.size+1,0,X⟩) h9H Hne.out _) Hne.out _) Hne.out _) Hne.out _) Hne.out _) Hne.out _) (fun h9H=>?_);clear hK K;refine wpAnyH_done (by kernel_rfl) ?_ _;go_wp2;obtain⟨W5,hW5⟩:=gX (((((((w3.setCell ⟨w.heap.size+1,0,X⟩ (.string nm)).setCell ⟨w.heap.size+1,1,X⟩ (Z a3 n3 c3)).setCell ⟨w.heap.size+1,2,X⟩ (O Y d)).setCell ⟨w.heap.size+1,3,X⟩ (O Y de)).setCell ⟨w.heap.size+1,4,X⟩ (O Y gx)).setCell ⟨w.heap.size+1,5,X⟩ (O Y gz)))
 have hb:W5.heap[w.heap.size+1]?=J (M #[.string nm,Z a3 n3 c3,O Y d,O Y de,O Y gx,O Y gz] 35 (0,0)):=by
  rw [←hW5];exact zal (zal (zal (zal (zal (zal HK3.out 0 _) 1 _) 2 _) 3 _) 4 _) 5 _
 have hk:KeepT 33 w3 W5:=by
  rw [←hW5];exact(((((KeepT.refl 33 w3).set (p:=⟨w.heap.size+1,0,X⟩) HK3.out (by decide) _).set (p:=⟨w.heap.size+1,1,X⟩) (zal HK3.out 0 _) (by decide) _).set (p:=⟨w.heap.size+1,2,X⟩) (zal (zal HK3.out 0 _) 1 _) (by decide) _).set (p:=⟨w.heap.size+1,3,X⟩) (zal (zal (zal HK3.out 0 _) 1 _) 2 _) (by decide) _).set (p:=⟨w.heap.size+1,4,X⟩) (zal (zal (zal (zal HK3.out 0 _) 1 _) 2 _) 3 _) (by decide) _ |>.set (p:=⟨w.heap.size+1,5,X⟩) (zal (zal (zal (zal (zal HK3.out 0 _) 1 _) 2 _) 3 _) 4 _) (by decide) _
 have hX5:Ext w W5:=by
  rw [←hW5];exact((((((hX3.set (by dsimp only;omega) _).set (by dsimp only;omega) _).set (by dsimp only;omega) _).set (by dsimp only;omega) _).set (by dsimp only;omega) _).set (by dsimp only;omega) _)
 rw [hW5];have b0:=qcB hb (i:=0) (u:=.string nm) rfl;have b1:=qcB hb (i:=1) (u:=Z a3 n3 c3) rfl;have b2:=qcB hb (i:=2) (u:=O Y d) rfl;have b3:=qcB hb (i:=3) (u:=O Y de) rfl;have b4:=qcB hb (i:=4) (u:=O Y gx) rfl;have b5:=qcB hb (i:=5) (u:=O Y gz) rfl;exact bR (v:=N #[.string nm,Z a3 n3 c3,O Y d,O Y de,O Y gx,O Y gz]) (by simp [results,Tryz.results40,go_sem,b0,b1,b2,b3,b4,b5]) rfl ⟨_,rfl,hv3.keep' hk,hX5,fun j hj=>by have:=(hown3.lt j hj).1;simp only [wZ,qdZ]at this;omega⟩
theorem zdV (w:V) (nm:ByteArray) (v:I) (sh:List (Int×Int)) (d de gx gz wy px pz sk:Int) (h:IsPr w v sh) (hn9:sh.length≤1000) :
  Calls Tryz.prog 11 #[N #[.string nm,v,O Y d,O Y de,O Y gx,O Y gz,O Y wy,O Y px,O Y pz,O C sk]] w
   fun e w'=>∃v',e = .returned (N #[.string nm,v',O Y d,O Y de,O Y gx,O Y gz,O Y wy,O Y px,O Y pz,O C sk])∧IsPts w' v' sh∧Ext w w'∧∀j,v'.ownBlock=J j→w.heap.size≤j:=by
 have HP:=hd9 (fun W (hW:Ext w W)=>zkc W nm v sh d de gx gz (h.ext' hW) hn9);obtain⟨a,n,c,rfl⟩:=h.form3;clear h;go_enter Tryz.func11,Tryz.ntmps11;go_wp2;refine wp_region_held_drew (S:=CellL [(⟨w.heap.size,0,X⟩,.string nm),(⟨w.heap.size,1,X⟩,Z a n c),(⟨w.heap.size,2,X⟩,O Y d),(⟨w.heap.size,3,X⟩,O Y de),(⟨w.heap.size,4,X⟩,O Y gx),(⟨w.heap.size,5,X⟩,O Y gz),(⟨w.heap.size,6,X⟩,O Y wy),(⟨w.heap.size,7,X⟩,O Y px),(⟨w.heap.size,8,X⟩,O Y pz),(⟨w.heap.size,9,X⟩,O C sk)]) (by kernel_rfl) cA (fun h9H=>?_);refine sN 0 ?_
 iterate 2
  refine tkn ?_
 refine oN ?_;refine sN 3 ?_
 iterate 11
  refine tkn ?_
 refine oN ?_;refine cl1 (i:=2) fun K hK=>?_
 go_simp
 (with_reducible refine cM (HP.out _ eA) ?_)
 rintro e w3 ⟨v3,rfl,hv3,hx3,ho3⟩;obtain⟨a3,n3,c3,rfl⟩:=form3 hv3
 go_wp2_with fail
 refine kO hK (cE h9H hx3) (fun h9H=>?_);clear hK K;refine tk1 (i:=14) ?_;have K3:=hx3.heapS (zek w (M #[.string nm,Z a n c,O Y d,O Y de,O Y gx,O Y gz,O Y wy,O Y px,O Y pz,O C sk] 28) (M #[.string ⟨#[]⟩,Z X 0 0,O Y 0,O Y 0,O Y 0,O Y 0,O Y 0,O Y 0,O Y 0,O C 0] 37));have k0:=qcB K3 (i:=0) (u:=.string ⟨#[]⟩) rfl;have k1:=qcB K3 (i:=1) (u:=Z X 0 0) rfl;have k2:=qcB K3 (i:=2) (u:=O Y 0) rfl;have k3:=qcB K3 (i:=3) (u:=O Y 0) rfl;have k4:=qcB K3 (i:=4) (u:=O Y 0) rfl;have k5:=qcB K3 (i:=5) (u:=O Y 0) rfl;have k6:=qcB K3 (i:=6) (u:=O Y 0) rfl;have k7:=qcB K3 (i:=7) (u:=O Y 0) rfl;have k8:=qcB K3 (i:=8) (u:=O Y 0) rfl;have k9:=qcB K3 (i:=9) (u:=O C 0) rfl;have kf:=qfB K3
 have Hne:=hd9 (show ∀q∈[((⟨w.heap.size,0,X⟩:Addr),Value.string nm),(⟨w.heap.size,1,X⟩,Z a n c),(⟨w.heap.size,2,X⟩,O Y d),(⟨w.heap.size,3,X⟩,O Y de),(⟨w.heap.size,4,X⟩,O Y gx),(⟨w.heap.size,5,X⟩,O Y gz),(⟨w.heap.size,6,X⟩,O Y wy),(⟨w.heap.size,7,X⟩,O Y px),(⟨w.heap.size,8,X⟩,O Y pz),(⟨w.heap.size,9,X⟩,O C sk)],w.heap.size+1≠q.1.block from fun q hq h=>by
  simp at hq
  rcases hq with rfl|rfl|rfl|rfl|rfl|rfl|rfl|rfl|rfl|rfl<;>(dsimp only at h;omega))
 have hX3:Ext w w3:=((((eR w).alloc _).alloc _).drew).trans hx3;have HK3:=hd9 K3;clear K3;refine cl1 (i:=15) fun K hK=>?_
 go_simp;refine kO hK (CellL.set (p:=⟨w.heap.size+1,9,X⟩) (CellL.set (p:=⟨w.heap.size+1,8,X⟩) (CellL.set (p:=⟨w.heap.size+1,7,X⟩) (CellL.set (p:=⟨w.heap.size+1,6,X⟩) (CellL.set (p:=⟨w.heap.size+1,5,X⟩) (CellL.set (p:=⟨w.heap.size+1,4,X⟩) (CellL.set (p:=⟨w.heap.size+1,3,X⟩) (CellL.set (p:=⟨w.heap.size+1,2,X⟩) (CellL.set (p:=⟨w.heap.size+1,1,X⟩) (CellL.set (p:=⟨w.heap.size+1,0,X⟩) h9H Hne.out _) Hne.out _) Hne.out _) Hne.out _) Hne.out _) Hne.out _) Hne.out _) Hne.out _) Hne.out _) Hne.out _) (fun h9H=>?_);clear hK K;refine wpAnyH_done (by kernel_rfl) ?_ _;go_wp2;have hz3:=zaa HK3.out;have hv4:IsPts w3 (Z a3 n3 c3) sh:=hv3;have n0:NoT 33 w3 (w.heap.size+1):=by intro cs fr e;rw [HK3.out]at e;cases e
 refine bR (v:=N #[.string nm,Z a3 n3 c3,O Y d,O Y de,O Y gx,O Y gz,O Y wy,O Y px,O Y pz,O C sk]) (by simp [results,Tryz.results11,go_sem,k0,k1,k2,k3,k4,k5,k6,k7,k8,k9,kf]) rfl ⟨_,rfl,?_,?_,fun j hj=>by have:=ho3 j hj;simp only [wZ,qdZ]at this;omega⟩
 ·refine hv4.keep' ?_
  repeat(first|with_reducible exact KeepT.refl _ _|(with_reducible refine KeepT.setN ?_ ?_ _)|with_reducible exact n0|with_reducible refine NoT.set ?_ _ _)
 ·repeat(first|with_reducible exact hX3|(with_reducible refine Ext.set ?_ (by dsimp only;omega) _))
theorem PPl.keep {w w':V} {c:List I} {p:Pl} (h:PPl w c p) (k:KeepT 33 w w'):PPl w' c p:=by
 obtain⟨v,h1,h2,h3⟩:=h;exact⟨v,h1,h2.keep' k,h3⟩
theorem OwnC.ne_blkD {T T':TypeId} {k:Nat} {w:V} {base:Nat} {v:I} {cs:List (List I)} (h:OwnC T k w base v cs) {b:Nat} {c:Array I} {fr:Nat×Nat} (hk:w.heap[b]?=J (M c T' fr)) (hT:T'≠T):v.ownBlock≠J b:=by
 intro e
 rcases h.2.2 with ⟨h1,_⟩|⟨g,cap,cur,hv,_,hh,_⟩
 ·rw [h1]at e;cases e
 ·rw [hv]at e;cases e;rw [hh]at hk;cases hk;exact hT rfl
theorem zdI:(Tryz.prog.info? 37).map (fun i=>(i.zero,i.size,i.bytes))=J (J (N #[.string ⟨#[]⟩,Z X 0 0,O Y 0,O Y 0,O Y 0,O Y 0,O Y 0,O Y 0,O Y 0,O C 0]),10,104):=by kernel_rfl
def Apart (L:Nat) (c:List I):Prop:=∀j,(c.getD 1 (.bool false)).ownBlock=J j→L≤j
def OwnPlA (w:V) (base L:Nat) (v:I) (ps:List Pl):Prop:=∃cs,OwnC 37 10 w base v cs∧cs.length=ps.length∧(∀(i:Nat) c p,cs[i]?=J c→ps[i]?=J p→PPl w c p)∧∀c∈cs,Apart L c
theorem OwnPlA.own {w:V} {base L:Nat} {v:I} {ps:List Pl} (h:OwnPlA w base L v ps):OwnPl w base v ps:=by
 obtain⟨cs,h1,h2,h3,_⟩:=h;exact⟨cs,h1,h2,h3⟩
def WlS (w w4:V) (b3:Nat) (vg vp v3:I) (ps:List Pl) (g:Nat) (t4:I) (W:V):Prop:=
 ∃(i:Nat) (vs:I) (cs:List (List I)),i≤ps.length∧t4=O Y (i:Nat)∧g=ps.length-i∧w4.grownBy W (J b3)∧W.heap[b3]?=J (M #[v3,vs] 50 (0,0)) ∧
  OwnC 37 10 W (b3+1) vs cs∧cs.length=i∧(∀(j:Nat) c p,cs[j]?=J c→ps[j]?=J p→PPl W c p)∧∀c∈cs,Apart b3 c
theorem zcH (w:V) (vg vp:I) (g:List (Int×Int)) (ps:List Pl) (hg:IsPr w vg g) (hp:IsWr w vp ps) (hg9:g.length≤1000) (hp9:ps.length≤1000) (hs9:∀p∈ps,p.shape.length≤1000) :
  Calls Tryz.prog 14 #[N #[vg,vp]] w fun e w'=>∃vg' vp' L,e = .returned (N #[vg',vp'])∧OwnC 33 2 w' w.heap.size vg' (g.map pc)∧(∀j,vg'.ownBlock=J j→j<L)∧OwnPlA w' w.heap.size L vp' ps∧Ext w w':=by
 have HPt:=hd9 (fun W (hW:Ext w W)=>zeG W vg g (hg.ext' hW) hg9);obtain⟨ga,gn,gc,rfl⟩:=hg.form3;obtain⟨pa,pn,pc1,rfl⟩:=hp.form3;have Hn:=hd9 hp.len.symm;have Hp:=hd9 hp;have Hs9:=hd9 hs9;have hpn:pn≤1000:=by rw [hp.len];exact hp9
 obtain⟨R,hR⟩:∃R:Ending→V→Prop,(fun e w'=>∃vg' vp' L,e = .returned (N #[vg',vp'])∧OwnC 33 2 w' w.heap.size vg' (g.map pc)∧(∀j,vg'.ownBlock=J j→j<L)∧OwnPlA w' w.heap.size L vp' ps∧Ext w w')=R:=⟨_,rfl⟩;rw [hR];have HR:=hd9 hR;clear hg hp hR hs9 hp9;go_enter Tryz.func14,Tryz.ntmps14
 go_wp2_with(go_at_call 43;(with_reducible refine(HPt.out _ ?_).mono ?_);exact eA;rintro e w3 ⟨v3,rfl,hown3,hx3⟩;obtain⟨a3,n3,c3,rfl⟩:=hown3.form3)
 have K0:=hx3.heapS (zll w (M #[Z ga gn gc,Z pa pn pc1] 46) (M #[Z X 0 0,Z X 0 0] 50));have K1:=hx3.heapS (zek w (M #[Z ga gn gc,Z pa pn pc1] 46) (M #[Z X 0 0,Z X 0 0] 50));obtain⟨b3,hb3⟩:=gX w3.heap.size;obtain⟨w4,hw4⟩:=gX (w3.alloc (M #[Z a3 n3 c3,Z X 0 0] 50));have hE4:Ext w3 w4:=by rw [←hw4];exact(eR w3).alloc _
 have hz4:w4.heap.size=b3+1:=by rw [←hw4];simp [hb3]
 have hB4:w4.heap[b3]?=J (M #[Z a3 n3 c3,Z X 0 0] 50 (0,0)):=by rw [←hw4];exact qhA _ _ _ hb3.symm
 have hX4:Ext w w4:=(((((eR w).alloc _).alloc _).trans hx3).trans hE4);have hv4:=hown3.ext hE4
 have hv5:∀j,(Value.slice a3 n3 c3).ownBlock=J j→w.heap.size+1<j∧j<b3:=fun j hj=>by
  obtain⟨q1,q2⟩:=hown3.lt j hj;simp only [wZ,qdZ]at q1;exact⟨by omega,by omega⟩
 have zb3:=zaa K1;rw [hb3]at zb3 ⊢;rw [hw4];have HK0:=hd9 (hE4.heapS K0);have HK1:=hd9 (hE4.heapS K1);have HB4:=hd9 hB4;have HX4:=hd9 hX4;have Hv4:=hd9 hv4;have Hv5:=hd9 hv5;clear K0 K1 hw4 hE4 hB4 hX4 hv4 hv5 hown3 hx3 hb3;go_wp2
 go_loopg [4] pn (WlS w w4 b3 (Z ga gn gc) (Z pa pn pc1) (Z a3 n3 c3) ps)
 case atStart=>exact⟨0,_,[],by omega,rfl,by rw [Hn.out];rfl,gb_refl _ _,HB4.out,by rw [←hz4];exact OwnC.nil _ _ _ _,rfl,fun j c p hc=>by simp at hc,fun c hc=>by cases hc⟩
 case round =>
  obtain⟨i,vs,cs,hi,rfl,rfl,hgb,hbb,hown,hcl,hcp,hcA⟩:=hrel;rw [Hn.out]at hi;obtain⟨va,vn,vc,rfl⟩:=hown.form3;have hsz:=hgb.size;have hbx:=(hgb.block w.heap.size (by omega) (by simp;omega)).trans HK0.out;have bx0:=qcB hbx (i:=0) (u:=Z ga gn gc) rfl;have bx1:=qcB hbx (i:=1) (u:=Z pa pn pc1) rfl;have c31:=qcB hbb (i:=1) (u:=Z va vn vc) rfl;have c30:=qcB hbb (i:=0) (u:=Z a3 n3 c3) rfl;have hXr:Ext w wr:=gb_Ext HX4.out hgb (by omega)
  by_cases hlt:i<pn
  ·obtain⟨p,hq⟩:∃q,ps[i]?=J q:=⟨ps[i]'(by rw [Hn.out];omega),by simp [Hn.out,hlt]⟩
   obtain⟨b,o,v,rfl,hb,hv,hsk,hc⟩:=(Hp.out.ext' hXr).at' hq;obtain⟨b0,o0,v0,e0,hb0,_,_,_⟩:=Hp.out.at' hq
   cases e0
   have HPl:=hd9 (fun W (hW:Ext wr W)=>zdV W p.name v p.shape p.depth p.density p.gx p.gz p.way p.ax p.az p.skin (hv.ext' hW) (Hs9.out p (lM hq)));obtain⟨sa,sn,sc,rfl⟩:=hv.form3;have cc0:=hc 0 (.string p.name) rfl;have cc1:=hc 1 (Z sa sn sc) rfl;have cc2:=hc 2 (O Y p.depth) rfl;have cc3:=hc 3 (O Y p.density) rfl;have cc4:=hc 4 (O Y p.gx) rfl;have cc5:=hc 5 (O Y p.gz) rfl;have cc6:=hc 6 (O Y p.way) rfl;have cc7:=hc 7 (O Y p.ax) rfl;have cc8:=hc 8 (O Y p.az) rfl;have cc9:=hc 9 (O C p.skin) rfl;simp only [Nat.add_zero]at cc0;have Hq:=hd9 hq;have Hgb:=hd9 hgb;have Hbb:=hd9 hbb;have Hown:=hd9 hown;have Hcp:=hd9 hcp;have HcA:=hd9 hcA;have p1:(0:Int)≤(i:Int):=by omega
   have p2:(i:Int)<(pn:Int):=by omega
   clear hq hv hc hgb hbb hown hcp hcA hbx;go_wp2;refine zaQ (fun i=>decide (10<i)) (CellL [(⟨b3,1,X⟩,Z va vn vc),(⟨w.heap.size,1,X⟩,Z (J ⟨b,o,X⟩) pn pc1),(⟨b,o+i*10,X⟩,.string p.name),(⟨b,o+i*10+1,X⟩,Z sa sn sc),(⟨b,o+i*10+2,X⟩,O Y p.depth),(⟨b,o+i*10+3,X⟩,O Y p.density),(⟨b,o+i*10+4,X⟩,O Y p.gx),(⟨b,o+i*10+5,X⟩,O Y p.gz),(⟨b,o+i*10+6,X⟩,O Y p.way),(⟨b,o+i*10+7,X⟩,O Y p.ax),(⟨b,o+i*10+8,X⟩,O Y p.az),(⟨b,o+i*10+9,X⟩,O C p.skin)]) (by kernel_rfl) ?_ (fun h9H=>?_)
   ·exact cA
   refine sN 0 ?_
   iterate 7
    refine tun ?_
   refine oN ?_;refine cu1 (i:=7) fun K hK=>?_
   go_simp
   (with_reducible refine cM (HPl.out _ (eR wr).drew) ?_)
   rintro e w7 ⟨v7,rfl,hv7,hx7,ho7⟩;obtain⟨a7,n7,c7,rfl⟩:=form3 hv7
   go_wp2_with fail
   refine kO hK (fun _=>cE h9H hx7) (fun h9H=>?_);clear hK K;have h9H:=h9H rfl;have X7:Ext wr w7:=((eR wr).drew).trans hx7;refine cu1 (i:=8) fun K hK=>?_
   go_simp;refine kO hK (fun _=>cE h9H ((eR _).alloc _)) (fun h9H=>?_);clear hK K;have h9H:=h9H rfl;have hA:Ext wr (w7.alloc (M #[.string p.name,Z a7 n7 c7,O Y p.depth,O Y p.density,O Y p.gx,O Y p.gz,O Y p.way,O Y p.ax,O Y p.az,O C p.skin] 37)):=X7.alloc _;refine cu1 (i:=9) fun K hK=>?_
   refine zbW (T:=37) (t:=48) (z:=N #[.string ⟨#[]⟩,Z X 0 0,O Y 0,O Y 0,O Y 0,O Y 0,O Y 0,O Y 0,O Y 0,O C 0]) (k:=10) (bytes:=104) (v:=Z va vn vc) (base:=b3+1) zdI rfl (by decide) (by decide) Tryz.underlying48 rfl _ _ rfl rfl (cs:=cs) (Hown.out.ext hA) (ad:=⟨w7.heap.size,0,X⟩) (m:=1) (c:=1) rfl [(#[.string p.name,Z a7 n7 c7,O Y p.depth,O Y p.density,O Y p.gx,O Y p.gz,O Y p.way,O Y p.ax,O Y p.az,O C p.skin]:Array I).toList] rfl (by simp) (by exact zca w7 #[.string p.name,Z a7 n7 c7,O Y p.depth,O Y p.density,O Y p.gx,O Y p.gz,O Y p.way,O Y p.ax,O Y p.az,O C p.skin] 37) (by simp [Value.oneCell']) (by omega) (by have:=hA.size;omega) ?_;intro v' w9 hown9 hgrow hlie;obtain⟨a9,n9,c9,rfl⟩:=hown9.form3;have Hlt9:=hd9 (fun j (h:(Value.slice va vn vc).ownBlock=J j)=>Hown.out.lt j h);refine kO hK (fun _=>CellL.grown h9H hgrow (fun q hq e=>?_)) (fun h9H=>?_)
   ·have h9:=(Hlt9.out _ e.symm).1
    simp at hq
    rcases hq with rfl|rfl|rfl|rfl|rfl|rfl|rfl|rfl|rfl|rfl|rfl|rfl<;>(dsimp only at h9;omega)
   clear hK K;have h9H:=h9H rfl;refine tu1 (i:=10) ?_;have hK9:=zaf hgrow (hA.heapS Hbb.out) (fun e=>by have:=(Hlt9.out _ e.symm).1;omega);have n1:=qcB hK9 (i:=1) (u:=Z va vn vc) rfl;have nf:=qfB hK9
   have hkp:KeepT 33 wr w9:=fun x c f hx=>zaf hgrow (hA.heapS hx) (fun e=>by
    have h8:=(Hown.out.ext hA).ne_blkD (hA.heapS hx) (by decide);exact h8 e.symm)
   have HK9:=hd9 hK9;have Hkp:=hd9 hkp;clear hK9 hkp;refine cu1 (i:=11) fun K hK=>?_
   go_simp;refine kO hK (fun h=>nomatch h) (fun h9H=>?_);clear hK K;refine doneHU (by kernel_rfl) ?_ _;go_wp2
   go_roundg (pn-(i+1))
   case measure=>have:=Hn.out;omega
   case rel =>
    have hkp2:KeepT 33 wr (w9.setCell ⟨b3,1,X⟩ (Z a9 n9 c9)):=Hkp.out.set (p:=⟨b3,1,X⟩) HK9.out (by decide) _;refine⟨i+1,Z a9 n9 c9,cs++[#[.string p.name,Z a7 n7 c7,O Y p.depth,O Y p.density,O Y p.gx,O Y p.gz,O Y p.way,O Y p.ax,O Y p.az,O C p.skin].toList],by rw [Hn.out];omega,by go_num,by rw [Hn.out],zcv (gb_below Hgb.out ((Below.mono hA hsz).trans (zad (base:=w4.heap.size) hgrow (nT hsz hA.size) (fun k hk=>by have:=(Hlt9.out k hk).1;omega)))) 1 _,zal HK9.out 1 _,hown9.setOther (fun e=>by have:=(hown9.lt _ e).1;dsimp only at this;omega) _,by simp [hcl],?_,?_⟩;rotate_left
    ·intro c hc
     rcases List.mem_append.1 hc with hc|hc
     ·exact HcA.out c hc
     ·rw [List.mem_singleton.1 hc]
      intro j hj;have h1:=ho7 j hj;simp only [qdZ]at h1;omega
    intro j c x hc hx
    by_cases hj:j<cs.length
    ·rw [List.getElem?_append_left hj]at hc
     exact(Hcp.out j c x hc hx).keep hkp2
    ·rw [List.getElem?_append_right (by omega)]at hc
     have hl:=(lS.1 hc).1;simp at hl;have hj0:j-cs.length=0:=by omega
     rw [hj0]at hc;have hji:j=i:=by omega
     subst hji;rw [Hq.out]at hx
     cases hx
     simp at hc;subst hc;refine⟨Z a7 n7 c7,rfl,?_,hsk⟩;have h1:IsPts (w7.alloc (M #[.string p.name,Z a7 n7 c7,O Y p.depth,O Y p.density,O Y p.gx,O Y p.gz,O Y p.way,O Y p.ax,O Y p.az,O C p.skin] 37)) (Z a7 n7 c7) p.shape:=hv7.ext' ((eR _).alloc _)
     have h2:KeepT 33 (w7.alloc (M #[.string p.name,Z a7 n7 c7,O Y p.depth,O Y p.density,O Y p.gx,O Y p.gz,O Y p.way,O Y p.ax,O Y p.az,O C p.skin] 37)) w9:=fun x c f hx=>zaf hgrow hx (fun e=>by
      have h8:=(Hown.out.ext hA).ne_blkD hx (by decide);exact h8 e.symm)
     exact(h1.keep' h2).keep' ((KeepT.refl _ w9).set (p:=⟨b3,1,X⟩) HK9.out (by decide) _)
  ·obtain rfl:pn=i:=by omega
   have hb1:=(hgb.block (w.heap.size+1) (by omega) (by simp;omega)).trans HK1.out;have r0:=qcB hb1 (i:=0) (u:=Z X 0 0) rfl;have r1:=qcB hb1 (i:=1) (u:=Z X 0 0) rfl;have rf:=qfB hb1;have hvg:OwnC 33 2 wr (w.heap.size+1+1) (Z a3 n3 c3) (g.map pc):=(Hv4.out.keep (gb_keepT hgb HB4.out (by decide))).mono (by simp only [wZ,qdZ];omega);have zr:=zaa hb1;have hW9:KeepT 33 wr ((wr.setCell ⟨w.heap.size+1,0,X⟩ (Z a3 n3 c3)).setCell ⟨w.heap.size+1,1,X⟩ (Z va vn vc)):=((KeepT.refl _ wr).set (p:=⟨w.heap.size+1,0,X⟩) hb1 (by decide) _).set (p:=⟨w.heap.size+1,1,X⟩) (zal hb1 0 _) (by decide) _;have hX9:Ext w ((wr.setCell ⟨w.heap.size+1,0,X⟩ (Z a3 n3 c3)).setCell ⟨w.heap.size+1,1,X⟩ (Z va vn vc)):=(hXr.set (by dsimp only;omega) _).set (by dsimp only;omega) _;have hown9:=(((hown.setOther (p:=⟨w.heap.size+1,0,X⟩) (fun e=>by have:=(hown.lt _ e).1;dsimp only at this;omega) (Z a3 n3 c3)).setOther (p:=⟨w.heap.size+1,1,X⟩) (fun e=>by have:=(hown.lt _ e).1;dsimp only at this;omega) (Z va vn vc))).mono (b':=w.heap.size) (by omega);have hb9:=zal (zal hb1 0 (Z a3 n3 c3)) 1 (Z va vn vc);have Hown9:=hd9 hown9;have HW9:=hd9 hW9;have HX9:=hd9 hX9;have Hvg:=hd9 hvg;have Hcp:=hd9 hcp;have HcA:=hd9 hcA;clear hown9 hW9 hX9 hvg hcp hcA hown hgb hbx hbb hXr;go_wp2;refine bR (v:=N #[Z a3 n3 c3,Z va vn vc]) (by simp [results,Tryz.results14,go_sem,r0,r1,rf]) rfl ?_;rw [←HR.out];exact⟨_,_,b3,rfl,(Hvg.out.keep HW9.out).mono (by omega),fun j hj=>(Hv5.out j hj).2,⟨cs,Hown9.out,by rw [hcl,Hn.out],fun j c p hc hx=>(Hcp.out j c p hc hx).keep HW9.out,HcA.out⟩,HX9.out⟩
theorem znj (w:V) (vg vp:I) (g:List (Int×Int)) (ps:List Pl) (hg:IsPr w vg g) (hp:IsWr w vp ps) (hg9:g.length≤1000) (hp9:ps.length≤1000) (hs9:∀p∈ps,p.shape.length≤1000) :
  Calls Tryz.prog 14 #[N #[vg,vp]] w fun e w'=>∃vg' vp',e = .returned (N #[vg',vp'])∧IsPts w' vg' g∧OwnPl w' w.heap.size vp' ps∧Ext w w':=
 (zcH w vg vp g ps hg hp hg9 hp9 hs9).mono fun _ _ ⟨vg',vp',_,he,h1,_,h2,hx⟩=>⟨vg',vp',he,h1.pts,h2.own,hx⟩
end
section
open Go.RowKit Go.Shelf Go.Sort Go.Lib
attribute [local go_sem] Oper.semAt_some
theorem OwnC.off {T:TypeId} {k:Nat} {w w':V} {base:Nat} {v:I} {cs:List (List I)} (h:OwnC T k w base v cs) (hb:∀j,v.ownBlock=J j→w'.heap[j]?=w.heap[j]?):OwnC T k w' base v cs:=by
 obtain⟨h0,hl,h2⟩:=h;refine⟨h0,hl,?_⟩
 rcases h2 with h2|⟨g,cap,cur,hv,hg,hh,hr⟩
 ·exact .inl h2
 ·exact .inr ⟨g,cap,cur,hv,hg,by rw [hb g (by rw [hv];rfl)];exact hh,hr⟩
theorem OwnPl.off {w w':V} {base:Nat} {v:I} {ps:List Pl} (h:OwnPl w base v ps) (hb:∀j,v.ownBlock=J j→w'.heap[j]?=w.heap[j]?) (hk:KeepT 33 w w'):OwnPl w' base v ps:=by
 obtain⟨cs,h1,h2,h3⟩:=h;refine⟨cs,h1.off hb,h2,fun i c p hc hp=>?_⟩;obtain⟨v,e,h4,h5⟩:=h3 i c p hc hp;exact⟨v,e,h4.keep' hk,h5⟩
theorem OwnPl.lt9 {w:V} {base:Nat} {v:I} {ps:List Pl} (h:OwnPl w base v ps):∀j,v.ownBlock=J j→base≤j∧j<w.heap.size:=by obtain⟨cs,h1,_⟩:=h;exact h1.lt
theorem OwnPl.ext9 {w w':V} {base:Nat} {v:I} {ps:List Pl} (h:OwnPl w base v ps) (k:Ext w w'):OwnPl w' base v ps:=h.off (fun j hj=>k.block (h.lt9 j hj).2) k.keep
theorem OwnPl.ne9 {w:V} {base:Nat} {v:I} {ps:List Pl} (h:OwnPl w base v ps) {b:Nat} {c:Array I} {T:TypeId} {fr:Nat×Nat} (hk:w.heap[b]?=J (M c T fr)) (hT:T≠37):v.ownBlock≠J b:=by
 obtain⟨cs,h1,_⟩:=h;intro e
 rcases h1.2.2 with h2|⟨g,cap,cur,hv,hg,hh,_⟩
 ·rw [h2.1]at e;cases e
 ·rw [hv]at e;cases e;rw [hh]at hk;cases hk;exact hT rfl
theorem zhN {g:List (Int×Int)} {ps:List Pl} {p:Pl} (h:dropE g ps p=0):laidP g ps=0∧placedOk p=true∧holdsB g p=true∧ps.any (nameB p.name)=false∧clearB g ps p=true:=by
 unfold dropE at h
 by_cases h0:laidP g ps=0
 ·rw [if_neg (by simpa using h0)]at h
  cases h1:placedOk p with
  | false=>rw [if_pos h1]at h;cases h
  | true =>
   rw [if_neg (by rw [h1];decide)]at h
   cases h2:holdsB g p with
   | false=>rw [if_pos h2]at h;cases h
   | true =>
    rw [if_neg (by rw [h2];decide)]at h
    cases h3:ps.any (nameB p.name)with
    | true=>rw [if_pos h3]at h;cases h
    | false =>
     rw [if_neg (by rw [h3];decide)]at h
     cases h4:clearB g ps p with
     | false=>rw [if_pos h4]at h;cases h
     | true=>exact⟨h0,rfl,rfl,rfl,rfl⟩
 ·rw [if_pos h0]at h
  exact absurd h h0
theorem zkH {g:List (Int×Int)} {ps:List Pl} {p:Pl} (h0:laidP g ps=0) (h1:placedOk p=true) (h2:holdsB g p=true) (h3:ps.any (nameB p.name)=false) (h4:clearB g ps p=true):dropE g ps p=0:=by
 unfold dropE;rw [if_neg (by simpa using h0),if_neg (by rw [h1];decide),if_neg (by rw [h2];decide),if_neg (by rw [h3];decide),if_neg (by rw [h4];decide)]
def dnP (n:Int) (p:Pl):Pl:={ p with az:=p.az-n }
theorem znB (n:Int) (p:Pl):mvP (0,-n) p=dnP n p:=by
 unfold mvP dnP;simp [Int.sub_eq_add_neg]
theorem zny {p:Pl} {n:Int} (h:placedOk p=true) (h0:0≤n) (h1 : -100000≤p.az-n):placedOk (dnP n p)=true:=by
 unfold placedOk pfarB at h ⊢;unfold dnP;simp only [Bool.and_eq_true,Bool.not_eq_true',Bool.or_eq_false_iff,decide_eq_false_iff_not]at h ⊢;refine⟨h.1,h.2.1,h.2.2.1,⟨?_,?_⟩,h.2.2.2.2⟩<;>omega
theorem znw {p:Pl} (h:placedOk p=true) : -100000≤p.az∧p.az≤100000:=by
 unfold placedOk pfarB at h;simp only [Bool.and_eq_true,Bool.not_eq_true',Bool.or_eq_false_iff,decide_eq_false_iff_not]at h;omega
theorem zgB {g:List (Int×Int)} {ps:List Pl} {p:Pl} (h:dropE g ps p=0) (hl:ps.length<120):0≤dropP g ps p∧dropP g ps p≤208000 ∧ -100000≤p.az∧p.az≤100000 ∧
  (-100000≤p.az-dropP g ps p→dropE g ps (dnP (dropP g ps p) p)=0∧dropP g ps (dnP (dropP g ps p) p)=0∧laidP g (ps++[dnP (dropP g ps p) p])=0∧bedsN g (ps++[dnP (dropP g ps p) p]) ps.length (dnP (dropP g ps p) p) 1 (ps.length+2)≠[]):=by
 obtain⟨h0,h1,h2,h3,h4⟩:=zhN h;have hb:=ziM h0 h1 h2 h4;have ha:=znw h1;refine⟨hb.2.1,hb.2.2,ha.1,ha.2,fun hz=>?_⟩;have kp:=zny h1 hb.2.1 hz;rw [←znB]at kp ⊢;have d1:=ziP h0 h1 h2 h4 hl h3 kp;exact⟨zkH h0 kp d1.2.1 h3 d1.2.2,(zcQ h0 h1 h2 h4 kp).1,d1.1,zkI h0 h1 h2 h4 kp⟩
theorem zmq {w:V} {c:List I} {p:Pl} (h:PPl w c p):∀u∈c,u.oneCell'=true:=by
 obtain⟨v,rfl,h1,_⟩:=h;obtain⟨a,n,c,rfl⟩:=form3 h1;simp [plc,Value.oneCell']
def FullR (W8:V) (vg:I) (qs:List Pl) (v9:I) (W:V):Prop:=∃b9 vf,v9 = .pointer (J ⟨b9,0,X⟩)∧W.heap[b9]?=J (M #[vg,vf] 50 (0,0))∧IsPls W vf qs∧Ext W8 W
theorem zg0 {w:V} {base:Nat} {v:I} {cs:List (List I)} {d:List I} {ps:List Pl} {q:Pl} (h:OwnC 37 10 w base v ([]++cs++[d])) (hl:cs.length=ps.length) (hc:∀(i:Nat) c p,cs[i]?=J c→ps[i]?=J p→PPl w c p) (hd:PPl w d q):IsPls w v (ps++[q]):=by
 rw [List.nil_append]at h;refine h.sl (by simp [hl]) fun i c x h1 h2=>?_
 by_cases hi:i<cs.length
 ·rw [List.getElem?_append_left hi]at h1
  rw [List.getElem?_append_left (by omega)]at h2;exact hc i c x h1 h2
 ·rw [List.getElem?_append_right (by omega)]at h1 h2
  rw [←hl]at h2
  by_cases h3:i-cs.length=0
  ·rw [h3]at h1 h2
   cases h1;cases h2
   exact hd
  ·rw [List.getElem?_eq_none (by simp;omega)]at h1
   cases h1
abbrev zplL:List I:=[.string ⟨#[]⟩,Z X 0 0,O Y 0,O Y 0,O Y 0,O Y 0,O Y 0,O Y 0,O Y 0,O C 0]
abbrev zpl:Array I:=#[.string ⟨#[]⟩,Z X 0 0,O Y 0,O Y 0,O Y 0,O Y 0,O Y 0,O Y 0,O Y 0,O C 0]
theorem zne (w:V) (vg vp v:I) (g:List (Int×Int)) (ps:List Pl) (p:Pl) (hg:IsPr w vg g) (hp:IsWr w vp ps) (hv:IsPr w v p.shape) (hk:0≤p.skin) (hgw:Gw w) :
  Calls Tryz.prog 4 #[N #[vg,vp],N (plc p v)] w fun e w'=>e = .returned (.bool true)∧Ext w w':=by
 have HF:=hd9 (fun(W:V) (hW:Ext w W)=>zgo W vg vp g ps (hg.ext' hW) (hp.ext' hW));have HL:=hd9 (fun(W:V) (hW:Ext w W)=>zg8 W p.name v p.shape p.depth p.density p.gx p.gz (hv.ext' hW));have HW:=hd9 (fun(hf:fewB g ps=true) (W:V) (hW:Ext w W)=>zcH W vg vp g ps (hg.ext' hW) (hp.ext' hW) (za9 hf).1 (by have:=(za9 hf).2.1;omega) (za9 hf).2.2);have HP:=hd9 (fun(hl:longB p=false) (W:V) (hW:Ext w W)=>zdV W p.name v p.shape p.depth p.density p.gx p.gz p.way p.ax p.az p.skin (hv.ext' hW) (by unfold longB at hl;simp at hl;omega));have HA:=hd9 (fun(W:V) (hW:Ext w W)=>zcM W (hgw.ext hW));have HG:=hd9 hgw;have Hlg:=hd9 (show longB p=(decide (20<p.shape.length) || decide (40<p.name.size))from rfl);obtain⟨ga,gc,rfl⟩:=hg.form;obtain⟨pa,pc1,rfl⟩:=hp.form;obtain⟨sa,sc1,rfl⟩:=hv.form;obtain⟨gn,hgn⟩:=gX g.length;obtain⟨pn,hpn⟩:=gX ps.length;obtain⟨sn,hsn⟩:=gX p.shape.length;have Hln:=hd9 (And.intro hgn hpn);rw [hgn,hpn]at HF HW;rw [hsn]at HL HP Hlg;rw [hgn,hpn,hsn];obtain⟨lg,hlg⟩:=gX ((decide (20<sn) || decide (40<p.name.size)));rw [hlg]at HL Hlg;obtain⟨fw,hfw⟩:=gX (fewB g ps);rw [hfw]at HF HW;have Hk:=hd9 hk;have Hfw:=hd9 hfw;clear hg hp hv hgw hgn hpn hsn hlg hk hfw;unfold plc
 by_cases hbad:fw=false∨lg=true
 ·clear HW HP
  have key:fw=false∨(fw=true∧lg=true):=by
   rcases hbad with h|h
   ·exact .inl h
   ·cases fw
    ·exact .inl rfl
    ·exact .inr ⟨rfl,h⟩
  clear hbad
  rcases key with rfl|⟨rfl,rfl⟩
  all_goals
   go_enter Tryz.func4,Tryz.ntmps4
   go_wp2_with(first|(go_at_call 13;(with_reducible refine(HF.out _ ?_).mono ?_);exact eA;rintro e w1 ⟨rfl,hx1⟩;obtain⟨⟨hc1,hf1⟩,z1_0,z1_1⟩:=cK2 w hx1)|(go_at_call 9;(with_reducible refine(HL.out _ ?_).mono ?_);exact eA;rintro e w2 ⟨rfl,hx2⟩)|(go_at_call 10;(with_reducible refine(HA.out _ ?_).mono ?_);exact eA;rintro e w3 ⟨rfl,hx3⟩))
   go_ret;exact⟨rfl,eA⟩
 ·obtain⟨rfl,rfl⟩:fw=true∧lg=false:=by
   cases fw<;>cases lg<;>simp at hbad ⊢
  have HW2:=hd9 (HW.out rfl);clear HW;have HP2:=hd9 (HP.out Hlg.out);clear hbad Hlg HP;go_enter Tryz.func4,Tryz.ntmps4
  go_upto_region 3 with (first|(go_at_call 13;(with_reducible refine(HF.out _ ?_).mono ?_);exact eA;rintro e w1 ⟨rfl,hx1⟩;obtain⟨⟨hc1,hf1⟩,z1_0,z1_1⟩:=cK2 w hx1)|(go_at_call 9;(with_reducible refine(HL.out _ ?_).mono ?_);exact eA;rintro e w2 ⟨rfl,hx2⟩;obtain⟨⟨hc2,hf2⟩,z2_0,z2_1⟩:=cK2 w hx2))
  have X2:Ext w w2:=eA
  have C2:CellL [(⟨w.heap.size,0,X⟩,Z ga gn gc),(⟨w.heap.size,1,X⟩,Z pa pn pc1),(⟨w.heap.size+1,0,X⟩,.string p.name),(⟨w.heap.size+1,1,X⟩,Z sa sn sc1),(⟨w.heap.size+1,2,X⟩,O Y p.depth),(⟨w.heap.size+1,3,X⟩,O Y p.density),(⟨w.heap.size+1,4,X⟩,O Y p.gx),(⟨w.heap.size+1,5,X⟩,O Y p.gz),(⟨w.heap.size+1,6,X⟩,O Y p.way),(⟨w.heap.size+1,7,X⟩,O Y p.ax),(⟨w.heap.size+1,8,X⟩,O Y p.az),(⟨w.heap.size+1,9,X⟩,O C p.skin)] w2.drew:=by
   refine⟨?_,?_,?_,?_,?_,?_,?_,?_,?_,?_,?_,?_,trivial⟩<;>go_simp
  clear hx1 hx2 hc1 hf1 hc2 hf2 z1_0 z1_1 z2_0 z2_1 HF HL;refine zbN [(4,5,M #[Z X 0 0,Z X 0 0] 50 (0,0)),(5,6,M zpl 37 (0,0))] _ 6 3 (fun i=>decide (5<i)) (fun _=>false) (by kernel_rfl) (by kernel_rfl) (by kernel_rfl) (by simp) (by kernel_rfl) (by intro x hx;simp only [List.mem_cons,List.not_mem_nil,or_false]at hx;rcases hx with rfl|rfl<;>exact⟨_,rfl,rfl,fun a W=>by go_simp⟩) (fun _ _ d _ _ h=>by cases d<;>exact h) C2 (fun h9H=>?_);refine tf1 (i:=0) ?_;refine tf1 (i:=2) ?_;refine cf1 (i:=1) fun W3 hXW3 hYW3 hCf K hK=>?_
  go_simp
  (with_reducible refine cM (HW2.out _ (X2.drew.trans hXW3)) ?_)
  rintro e w3 ⟨vg3,vp3,L3,rfl,hg3,hL3,ho3,hx3⟩;obtain⟨⟨ga3,gn3,gc3,rfl⟩,pa3,pn3,pc3,rfl⟩:=And.intro hg3.form3 (form3 ho3.own.pls)
  go_wp2_with fail
  refine kO hK (.of hYW3 hx3) (fun _ _=>?_);clear hK K hCf;have X3:Ext w w3:=(X2.drew.trans hXW3).trans hx3;refine cf1 (i:=3) fun W4 hXW4 hYW4 hCf K hK=>?_
  go_simp
  (with_reducible refine cM (HP2.out _ (X3.trans hXW4)) ?_)
  rintro e w4 ⟨v4,rfl,hv4,hx4,hL4⟩;obtain⟨sa4,sn4,sc4,rfl⟩:=form3 hv4
  go_wp2_with fail
  refine kO hK (.of hYW4 hx4) (fun _ _=>?_);clear hK K hCf;refine df (by kernel_rfl) (fun W5 hXW5 hY5=>?_);intro b5 q5 y5 _ _ b6 q6 y6 n56 o6;obtain⟨o64,o63,_⟩:=o6;dsimp only at o64 o63;have n56:b6≠b5:=by simpa using n56
  have X35:Ext w3 W5:=(hXW4.trans hx4).trans hXW5;have X5:Ext w W5:=X3.trans X35;have hg5:=(hg3.ext X35).pts;have ho5:=ho3.own.ext9 X35;have hv5:=hv4.ext' hXW5
  have hb5:∀j,(Value.slice pa3 pn3 pc3).ownBlock=J j→j≠b6:=fun j hj=>by
   have h1:=ho3.own.lt9 j hj;omega
  have xf:=qfB q5;have yf:=qfB q6;have x0:=qcB q5 (i:=0) (u:=Z X 0 0) rfl;have x1:=qcB q5 (i:=1) (u:=Z X 0 0) rfl;have u0:=qcB q6 (i:=0) (u:=.string ⟨#[]⟩) rfl;have u1:=qcB q6 (i:=1) (u:=Z X 0 0) rfl;have u2:=qcB q6 (i:=2) (u:=O Y 0) rfl;have u3:=qcB q6 (i:=3) (u:=O Y 0) rfl;have u4:=qcB q6 (i:=4) (u:=O Y 0) rfl;have u5:=qcB q6 (i:=5) (u:=O Y 0) rfl;have u6:=qcB q6 (i:=6) (u:=O Y 0) rfl;have u7:=qcB q6 (i:=7) (u:=O Y 0) rfl;have u8:=qcB q6 (i:=8) (u:=O Y 0) rfl;have u9:=qcB q6 (i:=9) (u:=O C 0) rfl;clear hXW3 hx3 hXW4 hx4 hXW5 X35 hg3 hL3 ho3 hv4 hL4 o63 o64 C2;refine cl1 (i:=6) fun K hK=>?_
  go_simp;refine kO hK (cE h9H (by(repeat refine Ext.set ?_ (by first|exact y5|exact y6) _);exact hY5)) (fun hCs=>?_);clear hK K;refine cl1 (i:=7) fun K hK=>?_
  go_simp;refine kO hK (cE h9H (by(repeat refine Ext.set ?_ (by first|exact y5|exact y6) _);exact hY5)) (fun hCs=>?_);clear hK K;refine wpAnyH_done (by kernel_rfl) ?_ _;clear x0 x1 u0 u1 u2 u3 u4 u5 u6 u7 u8 u9 xf yf;obtain⟨W6,hW6⟩:=gX (stL (stL W5 b5 0 [Z ga3 gn3 gc3,Z pa3 pn3 pc3]) b6 0 [.string p.name,Z sa4 sn4 sc4,O Y p.depth,O Y p.density,O Y p.gx,O Y p.gz,O Y p.way,O Y p.ax,O Y p.az,O C p.skin]);have e6:(((((((((((W5.setCell ⟨b5,0,X⟩ (Z ga3 gn3 gc3)).setCell ⟨b5,1,X⟩ (Z pa3 pn3 pc3)).setCell ⟨b6,0,X⟩ (.string p.name)).setCell ⟨b6,1,X⟩ (Z sa4 sn4 sc4)).setCell ⟨b6,2,X⟩ (O Y p.depth)).setCell ⟨b6,3,X⟩ (O Y p.density)).setCell ⟨b6,4,X⟩ (O Y p.gx)).setCell ⟨b6,5,X⟩ (O Y p.gz)).setCell ⟨b6,6,X⟩ (O Y p.way)).setCell ⟨b6,7,X⟩ (O Y p.ax)).setCell ⟨b6,8,X⟩ (O Y p.az)).setCell ⟨b6,9,X⟩ (O C p.skin)=W6:=hW6;rw [e6];have TB:=zei (cs:=[Z X 0 0,Z X 0 0]) (ds:=[.string ⟨#[]⟩,Z X 0 0,O Y 0,O Y 0,O Y 0,O Y 0,O Y 0,O Y 0,O Y 0,O C 0]) [Z ga3 gn3 gc3,Z pa3 pn3 pc3] [.string p.name,Z sa4 sn4 sc4,O Y p.depth,O Y p.density,O Y p.gx,O Y p.gz,O Y p.way,O Y p.ax,O Y p.az,O C p.skin] q5 q6 n56 rfl rfl;rw [hW6]at TB;obtain⟨K5,K6,tb,tk,te⟩:=TB
  replace y5:=nT X2.size y5
  replace y6:=nT X2.size y6
  have X6:=te w X5 y5 y6;have kp6:=tk 33 (by decide) (by decide);have hg6:=hg5.keep' kp6;have hv6:=hv5.keep' kp6;have ho6:=ho5.off (fun j hj=>tb j (fun e=>by subst e;exact ho5.ne9 q5 (by decide) hj) (hb5 j hj)) kp6;have z5:=zaa K5;have z6:=zaa K6;clear hW6 e6 tb tk te kp6 hg5 hv5 ho5 X5 X3 q5 q6 HW2 HP2 X2;have HD:=hd9 (fun(W:V) (hW:Ext W6 W)=>zeU W _ _ _ g ps p (hg6.ext' hW) (ho6.pls.ext' hW) (hv6.ext' hW) Hk.out (HG.out.ext (X6.trans hW)));unfold plc at HD;unfold RetDr at HD;obtain⟨de,hde⟩:=gX (dropE g ps p);obtain⟨dn,hdn⟩:=gX (dropP g ps p);rw [hde,hdn]at HD;have HE:=hd9 (And.intro hde hdn);have Hg6:=hd9 hg6;have Hv6:=hd9 hv6;have Ho6:=hd9 ho6;have Hb6:=hd9 (fun j hj=>(hb5 j hj:j≠b6));have HX6:=hd9 X6;have Kz:=hd9 (And.intro y5 y6)
  (have k50:=qcB K5 (i:=0) (u:=Z ga3 gn3 gc3) rfl);(have k51:=qcB K5 (i:=1) (u:=Z pa3 pn3 pc3) rfl);(have k60:=qcB K6 (i:=0) (u:=.string p.name) rfl);(have k61:=qcB K6 (i:=1) (u:=Z sa4 sn4 sc4) rfl);(have k62:=qcB K6 (i:=2) (u:=O Y p.depth) rfl);(have k63:=qcB K6 (i:=3) (u:=O Y p.density) rfl);(have k64:=qcB K6 (i:=4) (u:=O Y p.gx) rfl);(have k65:=qcB K6 (i:=5) (u:=O Y p.gz) rfl);(have k66:=qcB K6 (i:=6) (u:=O Y p.way) rfl);(have k67:=qcB K6 (i:=7) (u:=O Y p.ax) rfl);(have k68:=qcB K6 (i:=8) (u:=O Y (p.az)) rfl);(have k69:=qcB K6 (i:=9) (u:=O C p.skin) rfl);(have k5f:=qfB K5);(have k6f:=qfB K6)
  have HK5:=hd9 K5;have HK6:=hd9 K6;clear K5 K6;clear hg6 hv6 ho6 X6 hde hdn y5 y6 hb5
  go_upto_region 5 with (first|(go_at_call 15;(with_reducible refine(HD.out _ ?_).mono ?_);exact eA;rintro e w7 ⟨rfl,hx7⟩;(replace k50:=hx7.cellS k50);(replace k51:=hx7.cellS k51);(replace k60:=hx7.cellS k60);(replace k61:=hx7.cellS k61);(replace k62:=hx7.cellS k62);(replace k63:=hx7.cellS k63);(replace k64:=hx7.cellS k64);(replace k65:=hx7.cellS k65);(replace k66:=hx7.cellS k66);(replace k67:=hx7.cellS k67);(replace k68:=hx7.cellS k68);(replace k69:=hx7.cellS k69);(replace HK5:=hd9 (hx7.heapS HK5.out));(replace HK6:=hd9 (hx7.heapS HK6.out));(replace k5f:=qfB HK5.out);(replace k6f:=qfB HK6.out)))
  have X7:Ext w w7:=HX6.out.trans hx7
  by_cases hd0:de=0
  ·subst hd0
   rw [if_pos rfl];have hl8:ps.length<120:=by have:=(za9 Hfw.out).2.1;omega
   obtain⟨d1,d2,d3,d4,d5⟩:=zgB HE.out.1 hl8;rw [HE.out.2]at d1 d2 d5;have HE5:=hd9 d5;clear d5;have w1:IntKind.i64.wrap (p.az-dn)=p.az-dn:=iW _ (by omega);have w2:IntKind.i64.wrap (p.az-dn-1)=p.az-dn-1:=iW _ (by omega);have e1:decide (dn<0)=false:=by simp;omega
   by_cases hz:p.az-dn-1 < -100000
   ·go_wp2_with(first|(go_at_call 10;(with_reducible refine(HA.out _ X7).mono ?_);rintro e w8 ⟨rfl,hx8⟩))
    go_ret;exact⟨rfl,X7.trans hx8⟩
   ·have e2:decide (p.az-dn-1 < -100000)=false:=by simp;omega
    obtain⟨f1,f2,f3,f4⟩:=HE5.out (by omega);have HF3:=hd9 (And.intro f3 f4);have HF1:=hd9 (And.intro f1 f2);clear f1 f2 f3 f4 HE5
    go_upto_region 10 with fail
    obtain⟨W8,hW8⟩:=gX (w7.setCell ⟨b6,8,X⟩ (O Y (p.az-dn)));rw [hW8]
    have K5:W8.heap[b5]?=J (M #[Z ga3 gn3 gc3,Z pa3 pn3 pc3] 50 (0,0)):=by
     rw [←hW8];exact(bS _ _ _ _ (fun e=>n56 e.symm)).trans HK5.out
    have K6:W8.heap[b6]?=J (M #[.string p.name,Z sa4 sn4 sc4,O Y p.depth,O Y p.density,O Y p.gx,O Y p.gz,O Y p.way,O Y p.ax,O Y (p.az-dn),O C p.skin] 37 (0,0)):=by
     rw [←hW8];exact zau HK6.out 8 _
    have kp8:KeepT 33 w7 W8:=by
     rw [←hW8];exact(KeepT.refl _ _).set (p:=⟨b6,8,X⟩) HK6.out (by decide) _
    have X8:Ext w W8:=by
     rw [←hW8];exact X7.set (p:=⟨b6,8,X⟩) Kz.out.2 _
    have hg8:=(Hg6.out.ext' hx7).keep' kp8;have hv8:=(Hv6.out.ext' hx7).keep' kp8;have ho8:=(Ho6.out.ext9 hx7).off (w':=W8) (fun j hj=>by rw [←hW8];exact bS _ _ _ _ (Hb6.out j hj)) kp8;clear k50 k51 k60 k61 k62 k63 k64 k65 k66 k67 k68 k69 k5f k6f hW8 kp8 HK5 HK6 hx7 X7
    (have k50:=qcB K5 (i:=0) (u:=Z ga3 gn3 gc3) rfl);(have k51:=qcB K5 (i:=1) (u:=Z pa3 pn3 pc3) rfl);(have k60:=qcB K6 (i:=0) (u:=.string p.name) rfl);(have k61:=qcB K6 (i:=1) (u:=Z sa4 sn4 sc4) rfl);(have k62:=qcB K6 (i:=2) (u:=O Y p.depth) rfl);(have k63:=qcB K6 (i:=3) (u:=O Y p.density) rfl);(have k64:=qcB K6 (i:=4) (u:=O Y p.gx) rfl);(have k65:=qcB K6 (i:=5) (u:=O Y p.gz) rfl);(have k66:=qcB K6 (i:=6) (u:=O Y p.way) rfl);(have k67:=qcB K6 (i:=7) (u:=O Y p.ax) rfl);(have k68:=qcB K6 (i:=8) (u:=O Y (p.az-dn)) rfl);(have k69:=qcB K6 (i:=9) (u:=O C p.skin) rfl);(have k5f:=qfB K5);(have k6f:=qfB K6)
    have HK5:=hd9 K5;have HK6:=hd9 K6;have HX8:=hd9 X8;have Hg8:=hd9 hg8;have Ho8:=hd9 ho8;have Hv8:=hd9 hv8;have hl9:=(za9 Hfw.out).2.1;clear K5 K6 X8 hg8
    go_cut [9] (FullR W8 (Z ga3 gn3 gc3) (ps++[dnP dn p]))
    case first =>
     obtain⟨cs,hc1,hc2,hc3⟩:=ho8
     have hone:∀u∈cs.flatten,u.oneCell'=true:=fun u hu=>by
      obtain⟨l,hl,hu⟩:=List.mem_flatten.1 hu;obtain⟨i,hi⟩:=List.getElem?_of_mem hl;have hi2:=(lS.1 hi).1;exact zmq (hc3 i l (ps[i]'(by omega)) hi (gE _)) u hu
     have hlen9:([]:List (List I)).length+cs.length≤100000000000:=by simp;omega
     have X8d:Ext W8 W8.drew:=(eR _).drew;have C8:CellL [(⟨b5,0,X⟩,Z ga3 gn3 gc3),(⟨b5,1,X⟩,Z pa3 pn3 pc3),(⟨b6,0,X⟩,.string p.name),(⟨b6,1,X⟩,Z sa4 sn4 sc4),(⟨b6,2,X⟩,O Y p.depth),(⟨b6,3,X⟩,O Y p.density),(⟨b6,4,X⟩,O Y p.gx),(⟨b6,5,X⟩,O Y p.gz),(⟨b6,6,X⟩,O Y p.way),(⟨b6,7,X⟩,O Y p.ax),(⟨b6,8,X⟩,O Y (p.az-dn)),(⟨b6,9,X⟩,O C p.skin)] W8.drew:=⟨k50,k51,k60,k61,k62,k63,k64,k65,k66,k67,k68,k69,trivial⟩;clear k50 k51 k60 k61 k62 k63 k64 k65 k66 k67 k68 k69 k5f k6f;refine zbN [(9,9,M #[Z X 0 0,Z X 0 0] 50 (0,0))] _ 10 3 (fun i=>decide (9<i)) (fun _=>false) (by kernel_rfl) (by kernel_rfl) (by kernel_rfl) (by simp) (by kernel_rfl) (by intro x hx;simp only [List.mem_cons,List.not_mem_nil,or_false]at hx;rcases hx with rfl<;>exact⟨_,rfl,rfl,fun a W=>by go_simp⟩) (fun _ _ d _ _ h=>by cases d<;>exact h) C8 (fun h9H=>?_);refine tf1 (i:=0) ?_;refine tf1 (i:=1) ?_;refine tf1 (i:=2) ?_;refine tf1 (i:=3) ?_;refine tf1 (i:=5) ?_;refine cf2 (i:=4) (j:=6) (fun W4 hXW4 hYW4 hCf K hK=>?_) (fun W6 hXW6 hYW6 hCf K hK=>?_)
     ·skip
      refine zee (T:=37) (t:=48) (z:=N zpl) (k:=10) (bytes:=104) (base:=W4.heap.size) zdI rfl (by decide) (by decide) Tryz.underlying48 rfl _ _ rfl rfl (OwnC.nil _ _ _ _) rfl cs hc1.1 (hc1.rd.ext (X8d.trans hYW4)) hone hlen9 (nE _) ?_;intro v63 w4 hown hgrow hlie;have hx4:Ext W4 w4:=zad hgrow (nE _) (fun k hk=>nomatch hk);obtain⟨a7,n7,c7,rfl⟩:=hown.form3;refine kO hK (.of hYW4 hx4) (fun _ _=>?_);clear hK K hCf;refine cf1 (i:=6) fun W6 hXW6 hYW6 hCf K hK=>?_
      go_simp;refine kO hK (.of hYW6 ((eR _).alloc _)) (fun _ _=>?_);clear hK K hCf;have hnw:=zca W6 #[.string p.name,Z sa4 sn4 sc4,O Y p.depth,O Y p.density,O Y p.gx,O Y p.gz,O Y p.way,O Y p.ax,O Y (p.az-dn),O C p.skin] 37;refine cf1 (i:=7) fun W9 hXW9 hYW9 hCf K hK=>?_
      refine zbW (T:=37) (t:=48) (z:=N zpl) (k:=10) (bytes:=104) (v:=Z a7 n7 c7) (base:=W4.heap.size) zdI rfl (by decide) (by decide) Tryz.underlying48 rfl _ _ rfl rfl (cs:=[]++cs) (hown.ext ((hXW6.alloc _).trans hXW9)) (ad:=⟨W6.heap.size,0,X⟩) (m:=1) (c:=1) rfl [(#[.string p.name,Z sa4 sn4 sc4,O Y p.depth,O Y p.density,O Y p.gx,O Y p.gz,O Y p.way,O Y p.ax,O Y (p.az-dn),O C p.skin]:Array I).toList] rfl (by simp) (fun j u hj=>Ext.cellS hXW9 (hnw j u hj)) (by simp [Value.oneCell']) (by simp only [List.nil_append];omega) (by have:=Ext.size ((hXW6.alloc _).trans hXW9);have:=hx4.size;omega) ?_;intro v66 w9 hown9 hgrow9 hlie9;obtain⟨a9,n9,c9,rfl⟩:=hown9.form3
      have hlt4:∀j,(Value.slice a7 n7 c7).ownBlock=J j→j=W4.heap.size∧j<w4.heap.size:=fun j hj=>by
       have h1:=hown.lt j hj
       rcases hlie with h2|h2
       ·rw [h2]at hj;cases hj
       ·rw [h2]at hj
        have h3:=Option.some.inj hj;exact⟨h3.symm,h1.2⟩
      have hb89:W8.heap.size≤W4.heap.size:=(X8d.trans hYW4).size;have hX9d:Ext W8.drew w9:=hYW9.thenB (zad (base:=W8.heap.size) hgrow9 (X8d.trans hYW9).size (fun k hk=>by have:=(hlt4 k hk).1;omega)) (nE _);have hX9:Ext W8 w9:=X8d.trans hX9d;refine kO hK ⟨hX9d,hgrow9.size,fun k hk ho=>hgrow9.block k hk (fun e=>?_)⟩ (fun _ _=>?_)
      ·have h1:=hlt4 k e.symm
       simp only [Outs]at ho;omega
      clear hK K hCf hlt4 hlie hlie9 hgrow hgrow9 hb89 hnw hone hlen9 hX9d;refine tf1 (i:=8) ?_;refine df (by kernel_rfl) (fun W10 hXW10 hY10=>?_);intro b9 q9 y9 _ _;have xf:=qfB q9;have x0:=qcB q9 (i:=0) (u:=Z X 0 0) rfl;have x1:=qcB q9 (i:=1) (u:=Z X 0 0) rfl;have X10:=hX9.trans hXW10;have hown10:=hown9.ext hXW10;refine cl1 (i:=10) fun K hK=>?_
      go_simp;refine kO hK (cE h9H (by(repeat refine Ext.set ?_ (by exact y9) _);exact hY10)) (fun hCs=>?_);clear hK K;refine wpAnyH_done (by kernel_rfl) ?_ _;go_wp2;go_meet;have K9:=zau (zau q9 0 (Z ga3 gn3 gc3)) 1 (Z a9 n9 c9);have kT:KeepT 37 W10 ((W10.setCell ⟨b9,0,X⟩ (Z ga3 gn3 gc3)).setCell ⟨b9,1,X⟩ (Z a9 n9 c9)):=((KeepT.refl _ _).set (p:=⟨b9,0,X⟩) q9 (by decide) _).set (p:=⟨b9,1,X⟩) (zau q9 0 _) (by decide) _;have kP:KeepT 33 W10 ((W10.setCell ⟨b9,0,X⟩ (Z ga3 gn3 gc3)).setCell ⟨b9,1,X⟩ (Z a9 n9 c9)):=((KeepT.refl _ _).set (p:=⟨b9,0,X⟩) q9 (by decide) _).set (p:=⟨b9,1,X⟩) (zau q9 0 _) (by decide) _;exact⟨b9,Z a9 n9 c9,rfl,K9,zg0 (hown10.keep kT) hc2 (fun i c q hc hq=>(PPl.ext (hc3 i c q hc hq) X10).keep kP) ⟨_,rfl,(hv8.ext' X10).keep' kP,Hk.out⟩,(X10.set (p:=⟨b9,0,X⟩) y9 _).set (p:=⟨b9,1,X⟩) y9 _⟩
     ·skip
      go_simp;refine kO hK (.of hYW6 ((eR _).alloc _)) (fun _ _=>?_);clear hK K hCf;have hnw:=zca W6 #[.string p.name,Z sa4 sn4 sc4,O Y p.depth,O Y p.density,O Y p.gx,O Y p.gz,O Y p.way,O Y p.ax,O Y (p.az-dn),O C p.skin] 37;refine cf1 (i:=4) fun W4 hXW4 hYW4 hCf K hK=>?_
      refine zee (T:=37) (t:=48) (z:=N zpl) (k:=10) (bytes:=104) (base:=W4.heap.size) zdI rfl (by decide) (by decide) Tryz.underlying48 rfl _ _ rfl rfl (OwnC.nil _ _ _ _) rfl cs hc1.1 (hc1.rd.ext (X8d.trans hYW4)) hone hlen9 (nE _) ?_;intro v63 w4 hown hgrow hlie;have hx4:Ext W4 w4:=zad hgrow (nE _) (fun k hk=>nomatch hk);obtain⟨a7,n7,c7,rfl⟩:=hown.form3;refine kO hK (.of hYW4 hx4) (fun _ _=>?_);clear hK K hCf;refine cf1 (i:=7) fun W9 hXW9 hYW9 hCf K hK=>?_
      refine zbW (T:=37) (t:=48) (z:=N zpl) (k:=10) (bytes:=104) (v:=Z a7 n7 c7) (base:=W4.heap.size) zdI rfl (by decide) (by decide) Tryz.underlying48 rfl _ _ rfl rfl (cs:=[]++cs) (hown.ext hXW9) (ad:=⟨W6.heap.size,0,X⟩) (m:=1) (c:=1) rfl [(#[.string p.name,Z sa4 sn4 sc4,O Y p.depth,O Y p.density,O Y p.gx,O Y p.gz,O Y p.way,O Y p.ax,O Y (p.az-dn),O C p.skin]:Array I).toList] rfl (by simp) (fun j u hj=>Ext.cellS ((hXW4.trans hx4).trans hXW9) (hnw j u hj)) (by simp [Value.oneCell']) (by simp only [List.nil_append];omega) (by have:=Ext.size hXW9;have:=hx4.size;omega) ?_;intro v66 w9 hown9 hgrow9 hlie9;obtain⟨a9,n9,c9,rfl⟩:=hown9.form3
      have hlt4:∀j,(Value.slice a7 n7 c7).ownBlock=J j→j=W4.heap.size∧j<w4.heap.size:=fun j hj=>by
       have h1:=hown.lt j hj
       rcases hlie with h2|h2
       ·rw [h2]at hj;cases hj
       ·rw [h2]at hj
        have h3:=Option.some.inj hj;exact⟨h3.symm,h1.2⟩
      have hb89:W8.heap.size≤W4.heap.size:=(X8d.trans hYW4).size;have hX9d:Ext W8.drew w9:=hYW9.thenB (zad (base:=W8.heap.size) hgrow9 (X8d.trans hYW9).size (fun k hk=>by have:=(hlt4 k hk).1;omega)) (nE _);have hX9:Ext W8 w9:=X8d.trans hX9d;refine kO hK ⟨hX9d,hgrow9.size,fun k hk ho=>hgrow9.block k hk (fun e=>?_)⟩ (fun _ _=>?_)
      ·have h1:=hlt4 k e.symm
       simp only [Outs]at ho;omega
      clear hK K hCf hlt4 hlie hlie9 hgrow hgrow9 hb89 hnw hone hlen9 hX9d;refine tf1 (i:=8) ?_;refine df (by kernel_rfl) (fun W10 hXW10 hY10=>?_);intro b9 q9 y9 _ _;have xf:=qfB q9;have x0:=qcB q9 (i:=0) (u:=Z X 0 0) rfl;have x1:=qcB q9 (i:=1) (u:=Z X 0 0) rfl;have X10:=hX9.trans hXW10;have hown10:=hown9.ext hXW10;refine cl1 (i:=10) fun K hK=>?_
      go_simp;refine kO hK (cE h9H (by(repeat refine Ext.set ?_ (by exact y9) _);exact hY10)) (fun hCs=>?_);clear hK K;refine wpAnyH_done (by kernel_rfl) ?_ _;go_wp2;go_meet;have K9:=zau (zau q9 0 (Z ga3 gn3 gc3)) 1 (Z a9 n9 c9);have kT:KeepT 37 W10 ((W10.setCell ⟨b9,0,X⟩ (Z ga3 gn3 gc3)).setCell ⟨b9,1,X⟩ (Z a9 n9 c9)):=((KeepT.refl _ _).set (p:=⟨b9,0,X⟩) q9 (by decide) _).set (p:=⟨b9,1,X⟩) (zau q9 0 _) (by decide) _;have kP:KeepT 33 W10 ((W10.setCell ⟨b9,0,X⟩ (Z ga3 gn3 gc3)).setCell ⟨b9,1,X⟩ (Z a9 n9 c9)):=((KeepT.refl _ _).set (p:=⟨b9,0,X⟩) q9 (by decide) _).set (p:=⟨b9,1,X⟩) (zau q9 0 _) (by decide) _;exact⟨b9,Z a9 n9 c9,rfl,K9,zg0 (hown10.keep kT) hc2 (fun i c q hc hq=>(PPl.ext (hc3 i c q hc hq) X10).keep kP) ⟨_,rfl,(hv8.ext' X10).keep' kP,Hk.out⟩,(X10.set (p:=⟨b9,0,X⟩) y9 _).set (p:=⟨b9,1,X⟩) y9 _⟩
    case rest =>
     obtain⟨b9,vf,rfl,K9,hf9,X89⟩:=hcut;obtain⟨fa,fn,fc,rfl⟩:=form3 hf9;obtain⟨wa,rfl⟩:∃W,W=wc:=⟨_,rfl⟩;have XA:Ext w wa:=HX8.out.trans X89;have hpn:pn=ps.length:=Hln.out.2.symm;have hpn3:pn3=ps.length:=Ho8.out.pls.len;have HD2:=hd9 (fun(W:V) (hW:Ext wa W)=>zeU W _ _ _ g ps (dnP dn p) (Hg8.out.ext' (X89.trans hW)) (Ho8.out.pls.ext' (X89.trans hW)) (Hv8.out.ext' (X89.trans hW)) Hk.out (HG.out.ext (XA.trans hW)));have hok:=zaH HF3.out.1;have HB2:=hd9 (fun(W:V) (hW:Ext wa W)=>zcP W _ _ g (ps++[dnP dn p]) ps.length (dnP dn p) 1 (Hg8.out.ext' (X89.trans hW)) (hf9.ext' hW) (HG.out.ext (XA.trans hW)) HF3.out.1 (by simp) (by omega) (by omega) hok.2.2 hok.1 hok.2.1);have HC2:=hd9 (fun(W:V) (hW:Ext wa W)=>zis W _ _ g (ps++[dnP dn p]) (Hg8.out.ext' (X89.trans hW)) (hf9.ext' hW) (HG.out.ext (XA.trans hW)));unfold RetDr at HD2;rw [HF1.out.1,HF1.out.2,if_pos rfl]at HD2;rw [HF3.out.1]at HC2;have e9:(ps++[dnP dn p]).length+1=ps.length+2:=by simp
     rw [e9]at HB2;obtain⟨bs,hbs⟩:=gX (bedsN g (ps++[dnP dn p]) ps.length (dnP dn p) 1 (ps.length+2));have hne:=HF3.out.2;rw [hbs]at HB2 hne;have Hbl:=hd9 (List.length_pos_iff.2 hne);rw [←hpn3]at HB2;unfold plc dnP at HD2
     replace HK5:=hd9 (X89.heapS HK5.out)
     replace HK6:=hd9 (X89.heapS HK6.out)
     clear k50 k51 k60 k61 k62 k63 k64 k65 k66 k67 k68 k69 k5f k6f
     (have k50:=qcB HK5.out (i:=0) (u:=Z ga3 gn3 gc3) rfl);(have k51:=qcB HK5.out (i:=1) (u:=Z pa3 pn3 pc3) rfl);(have k60:=qcB HK6.out (i:=0) (u:=.string p.name) rfl);(have k61:=qcB HK6.out (i:=1) (u:=Z sa4 sn4 sc4) rfl);(have k62:=qcB HK6.out (i:=2) (u:=O Y p.depth) rfl);(have k63:=qcB HK6.out (i:=3) (u:=O Y p.density) rfl);(have k64:=qcB HK6.out (i:=4) (u:=O Y p.gx) rfl);(have k65:=qcB HK6.out (i:=5) (u:=O Y p.gz) rfl);(have k66:=qcB HK6.out (i:=6) (u:=O Y p.way) rfl);(have k67:=qcB HK6.out (i:=7) (u:=O Y p.ax) rfl);(have k68:=qcB HK6.out (i:=8) (u:=O Y (p.az-dn)) rfl);(have k69:=qcB HK6.out (i:=9) (u:=O C p.skin) rfl);(have k5f:=qfB HK5.out);(have k6f:=qfB HK6.out)
     have k90:=qcB K9 (i:=0) (u:=Z ga3 gn3 gc3) rfl;have k91:=qcB K9 (i:=1) (u:=Z fa fn fc) rfl;have z9:=zaa K9;have HX89:=hd9 X89;have HXA:=hd9 XA;clear hpn hpn3 hok hne hbs e9 hf9 X89 HF1 HF3 hl9 hl8 XA K9
     go_wp2_with(first|(go_at_call 15;(with_reducible refine(HD2.out _ ?_).mono ?_);exact eA;rintro e w11 ⟨rfl,hx11⟩;(replace k50:=hx11.cellS k50);(replace k51:=hx11.cellS k51);(replace k60:=hx11.cellS k60);(replace k61:=hx11.cellS k61);(replace k62:=hx11.cellS k62);(replace k63:=hx11.cellS k63);(replace k64:=hx11.cellS k64);(replace k65:=hx11.cellS k65);(replace k66:=hx11.cellS k66);(replace k67:=hx11.cellS k67);(replace k68:=hx11.cellS k68);(replace k69:=hx11.cellS k69);(replace HK5:=hd9 (hx11.heapS HK5.out));(replace HK6:=hd9 (hx11.heapS HK6.out));(replace k5f:=qfB HK5.out);(replace k6f:=qfB HK6.out);(replace k90:=hx11.cellS k90);(replace k91:=hx11.cellS k91))|(go_at_call 16;(with_reducible refine(HB2.out _ ?_).mono ?_);exact eA;rintro e w12 ⟨vb,rfl,hb,hx12⟩;obtain⟨ba,bn,bc,rfl⟩:=hb.form3;(have hbn:=zcW hb);(have hb0:0<bn:=by have:=Hbl.out;omega);clear hbn;(replace k50:=hx12.cellS k50);(replace k51:=hx12.cellS k51);(replace k60:=hx12.cellS k60);(replace k61:=hx12.cellS k61);(replace k62:=hx12.cellS k62);(replace k63:=hx12.cellS k63);(replace k64:=hx12.cellS k64);(replace k65:=hx12.cellS k65);(replace k66:=hx12.cellS k66);(replace k67:=hx12.cellS k67);(replace k68:=hx12.cellS k68);(replace k69:=hx12.cellS k69);(replace HK5:=hd9 (hx12.heapS HK5.out));(replace HK6:=hd9 (hx12.heapS HK6.out));(replace k5f:=qfB HK5.out);(replace k6f:=qfB HK6.out);(replace k90:=hx12.cellS k90);(replace k91:=hx12.cellS k91))|(go_at_call 17;(with_reducible refine(HC2.out _ ?_).mono ?_);exact eA;rintro e w13 ⟨rfl,hx13⟩)|(go_at_call 10;(with_reducible refine(HA.out _ (HXA.out.trans ?_)).mono ?_);exact eA;rintro e w14 ⟨rfl,hx14⟩))
     go_ret;exact⟨rfl,HXA.out.trans eA⟩
  ·rw [if_neg hd0]
   have hd1:(de != 0)=true:=by simpa using hd0
   clear HE
   go_wp2_with(first|(go_at_call 10;(with_reducible refine(HA.out _ X7).mono ?_);rintro e w8 ⟨rfl,hx8⟩))
   go_ret;exact⟨rfl,X7.trans hx8⟩
end
section
open Go.RowKit Go.Shelf Go.Sort Go.Lib
def bedsE (g:List (Int×Int)) (ps:List Pl) (i pin:Int):Int:=if laidP g ps≠0 then laidP g ps else if wrongB ps.length i pin=true then 3 else 0
def RetBA (w:V) (g:List (Int×Int)) (ps:List Pl) (i pin:Int) (e:Ending) (w':V):Prop:=
 (bedsE g ps i pin≠0∧e = .returned (.tuple #[Z X 0 0,O Y (bedsE g ps i pin)])∧Ext w w') ∨
  (bedsE g ps i pin=0∧∃a:Nat,∃p,i=(a:Int)∧ps[a]?=J p∧0≤pin∧pin≤50∧laidP g ps=0∧RetBs w (bedsN g ps a p pin (ps.length+1)) e w')
theorem zeS (w:V) (vg vp:I) (g:List (Int×Int)) (ps:List Pl) (i pin:Int) (hg:IsPts w vg g) (hp:IsPls w vp ps) (hgw:Gw w) :
  Calls Tryz.prog 16 #[N #[vg,vp],O Y i,O Y pin] w (RetBA w g ps i pin):=by
 by_cases h0:laidP g ps=0
 ·cases hw:wrongB ps.length i pin with
  | false =>
   have e:bedsE g ps i pin=0:=by unfold bedsE;rw [if_neg (by simpa using h0),hw];rfl
   have hw2:=hw;unfold wrongB at hw2;simp only [Bool.or_eq_false_iff,decide_eq_false_iff_not]at hw2;obtain⟨a,rfl⟩:∃a:Nat,i=(a:Int):=⟨i.toNat,by omega⟩;have ha:ps[a]?=J (ps[a]'(by omega)):=gE _;have hok:=zaH h0;exact(zcP w vg vp g ps a _ pin hg hp hgw h0 ha (by omega) (by omega) hok.2.2 hok.1 hok.2.1).mono fun e' w' h=>.inr ⟨e,a,_,rfl,ha,by omega,by omega,h0,h⟩
  | true =>
   have e:bedsE g ps i pin=3:=by unfold bedsE;rw [if_neg (by simpa using h0),hw];rfl
   have HL:=hd9 (fun(W:V) (hW:Ext w W)=>ze8 (hg.ext' hW) (hp.ext' hW) (hgw.ext hW) h0)
   have HW:=hd9 (fun(W:V) (a:Option Addr) (n c:Nat) (hs:IsLas W (Z a n c) ps)=>(show Calls Tryz.prog 57 #[N #[vg,Z a n c],O Y i,O Y pin] W fun e w'=>e = .returned (.bool true)∧Ext W w' from by
    have h:=zgb W vg a n c i pin (form3 hg);rw [hs.len,hw]at h;rw [hs.len];exact h))
   obtain⟨R,hR⟩:=gX (RetBA w g ps i pin);rw [hR];have HR:=hd9 hR;have HE:=hd9 e;obtain⟨ga,gn,gc,rfl⟩:=form3 hg;obtain⟨pa,pn,pc1,rfl⟩:=form3 hp;clear h0 hw hg hp hgw e hR;go_enter Tryz.func16,Tryz.ntmps16
   go_wp2_with(first|(go_at_call 44;(with_reducible refine(HL.out _ ?_).mono ?_);exact eA;rintro e w4 ⟨va,vn,vc,rfl,hvs,hx4⟩;obtain⟨hc4,hf4⟩:=hx4.cells;(have z4:=hx4.size);(simp only [wZ]at z4);(have z4a:w.heap.size<w4.heap.size:=by omega))|(go_at_call 57;(with_reducible refine(HW.out _ _ _ _ (hvs.ext' ?_)).mono ?_);exact eA;rintro e w5 ⟨rfl,hx5⟩))
   rw [←HR.out];exact .inl ⟨by rw [HE.out];decide,by rw [HE.out];rfl,eA⟩
 ·have e:bedsE g ps i pin=laidP g ps:=by unfold bedsE;rw [if_pos h0]
  have HL:=hd9 (fun(W:V) (hW:Ext w W)=>zlC (hg.ext' hW) (hp.ext' hW) (hgw.ext hW) h0);obtain⟨L,hL⟩:=gX (laidP g ps);rw [hL]at HL e h0;obtain⟨R,hR⟩:=gX (RetBA w g ps i pin);rw [hR];have HR:=hd9 hR;have HE:=hd9 e;have H0:=hd9 h0;have h0b:(L != 0)=true:=by simpa using h0
  obtain⟨ga,gn,gc,rfl⟩:=form3 hg;obtain⟨pa,pn,pc1,rfl⟩:=form3 hp;clear hg hp hgw e hR hL h0;go_enter Tryz.func16,Tryz.ntmps16
  go_wp2_with(first|(go_at_call 44;(with_reducible refine(HL.out _ ?_).mono ?_);exact eA;rintro e w4 ⟨rfl,hx4⟩;obtain⟨hc4,hf4⟩:=hx4.cells))
  rw [←HR.out];exact .inl ⟨by rw [HE.out];exact H0.out,by rw [HE.out];rfl,eA⟩
end
section
theorem zix {p:Pl} {t:List (Int×Int)} {b pin:Int} {be:Be} (hl:LnOk (lowP2 p)) (ht:LnOk t) (hp:Bd 104000 pin) (h:bedO p t b pin=J be):Rb 300 be.fx∧Rb 300 be.tx:=by
 obtain⟨ho,hno⟩:=zdr h;rw [zbf ho hno]at h;have h:=(Option.some.inj h).symm;have hok:SpOk (btw (lowP2 p) t):=zbQ hl ht;have h1:Rb 1 (leastR (btw (lowP2 p) t)).1:=zak hok _ (by unfold leastR;exact(zax (gapR _) (zaD _)).1);have h2:=Rb.reach_n (f:=pinG (btw (lowP2 p) t) pin) (qs:=stopsR (btw (lowP2 p) t)) (o:=((leastR (btw (lowP2 p) t)).1,(leastR (btw (lowP2 p) t)).1)) ⟨h1.up (by decide),h1.up (by decide)⟩ (zak hok) (fun q hq=>Rb.pin_g (zak hok q hq) hok hp) _ (nE _);subst h;exact h2
theorem zgN {g:List (Int×Int)} {ps:List Pl} (hg:LnOk g) (hok:∀p∈ps,placedOk p=true) {a:Nat} {p:Pl} (hp:ps[a]?=J p) {b pin:Int} (hb:Bd 104000 pin) {be:Be} (h:bedAt g ps a p pin b=J be):Rb 300 be.fx∧Rb 300 be.tx:=by
 have hl:=(zam (hok p (lM hp))).1;unfold bedAt at h
 split at h
 ·cases h
 ·split at h
  ·exact zix hl hg hb h
  ·split at h
   ·cases h
   ·rename_i q hq
    split at h
    ·exact zix hl (zam (hok q (lM hq))).2 hb h
    ·cases h
def PinX (ps:List Pl) (p:Pl) (pin:Int) (be:Be) (x:Rat):Prop:=
 Rb 300 x∧((lineL (lowP2 p):Int):Rat)≤x∧x≤((lineR (lowP2 p):Int):Rat) ∧
  (0≤be.num→∃q,ps[be.num.toNat]?=J q∧placedOk q=true∧((lineL (lowP2 q):Int):Rat)≤x∧x≤((lineR (lowP2 q):Int):Rat)∧0≤atR (lowP2 p) x-atR (upP2 q) x∧atR (lowP2 p) x-atR (upP2 q) x≤(pin:Rat))
def PinB (ps:List Pl) (p:Pl) (pin:Int) (ks:List Be) (be:Be):Prop:=
 be.fz=atR (lowP2 p) be.fx∧be.tz=atR (lowP2 p) be.tx∧PinX ps p pin be be.fx∧PinX ps p pin be be.tx∧be.fx≤be.tx∧∃k∈ks,k.num=be.num∧k.fx≤be.fx∧be.tx≤k.tx
theorem zfI {g:List (Int×Int)} {ps:List Pl} {a:Nat} {p:Pl} {pin:Int} {n:Nat} {be:Be} (h:be∈bedsN g ps a p pin n):∃k<n,bedAt g ps a p pin ((k:Int)-1)=J be:=by
 unfold bedsN at h;obtain⟨k,hk,h1⟩:=List.mem_filterMap.1 h;exact⟨k,List.mem_range.1 hk,h1⟩
theorem zh1 {g:List (Int×Int)} {ps:List Pl} (h0:laidP g ps=0) {a:Nat} {p:Pl} (hp:ps[a]?=J p) {pin pin':Int} (hle:pin≤pin') (b0:0≤pin) (b1:pin'≤50) :
  (∀be∈bedsN g ps a p pin (ps.length+1),PinB ps p pin (bedsN g ps a p pin' (ps.length+1)) be)∧(bedsN g ps a p pin (ps.length+1)).length≤(bedsN g ps a p pin' (ps.length+1)).length ∧
   (∀be∈bedsN g ps a p pin' (ps.length+1),Rb 300 be.fx∧Rb 300 be.tx):=by
 obtain⟨hok,_,hgr⟩:=zaH h0;have hg:=zbl hgr;have rg:Rise g:=zdG hgr;have ng:g≠[]:=hg.1;refine⟨fun be hbe=>?_,zhD rg ng hok hp hle _,fun be hbe=>?_⟩
 ·obtain⟨k,hk,h⟩:=zfI hbe
  obtain⟨e1,e2,e3,E1,E2,e4,e5⟩:=zhC rg ng hok hp h;have rb:=zgN hg hok hp (by unfold Bd;omega) h
  have key:∀x,EndP p (topN g ps ((k:Int)-1)) pin x→Rb 300 x→PinX ps p pin be x:=fun x hx hr=>by
   refine⟨hr,hx.inL.1,hx.inL.2,fun hn=>?_⟩;rw [e1]at hn ⊢;obtain⟨q,hq⟩:=e5 hn
   have ht:topN g ps ((k:Int)-1)=upP2 q:=by
    unfold topN;rw [if_neg (by omega),hq]
   have hqk:=hok q (lM hq);have sr:=zag hqk;have hT:=hx.inT;have hG:=hx.gap;rw [ht]at hT hG;refine⟨q,hq,hqk,?_,?_,hG.1,hG.2⟩
   ·rw [←sr.1];exact hT.1
   ·rw [←sr.2.1];exact hT.2
  refine⟨e2,e3,key _ E1 rb.1,key _ E2 rb.2,e4,?_⟩;obtain⟨k',h',f1,f2,f3⟩:=zer rg ng hok hp hle h;refine⟨k',?_,f1,f2,f3⟩;unfold bedsN;exact List.mem_filterMap.2 ⟨k,List.mem_range.2 hk,h'⟩
 ·obtain⟨k,hk,h⟩:=zfI hbe
  exact zgN hg hok hp (by unfold Bd;omega) h
end
end Go.Proofs.YtodpfeaihohpjaaGreatDoor.Cop
