/- Part 33: contracts of what the law calls. -/
import Derived.Test.YtodpfeaihohpjaaGreatDoorCopA31
import Derived.Test.YtodpfeaihohpjaaGreatDoorCopA10
import Derived.Test.YtodpfeaihohpjaaGreatDoorCopA15
import Derived.Test.YtodpfeaihohpjaaGreatDoorCopA30
import Derived.Test.YtodpfeaihohpjaaGreatDoorCopA16
import Derived.Test.YtodpfeaihohpjaaGreatDoorCopA29
import Derived.Test.YtodpfeaihohpjaaGreatDoorCopA27
import Derived.Test.YtodpfeaihohpjaaGreatDoorCopA24
import Derived.Test.YtodpfeaihohpjaaGreatDoorCopA21
set_option maxRecDepth 1000000
set_option maxHeartbeats 16000000
set_option linter.unusedSimpArgs false
set_option linter.unusedVariables false
open Go.Value renaming int→O,slice→Z,bool→N,agg→F
open Go.IntKind renaming i64→Y,u8→C
open Option renaming none→X,some→M
open Go renaming World→V,Value→J
open Go.Obj renaming cells→I
namespace Go.Proofs.YtodpfeaihohpjaaGreatDoor.Cop
section
open Go.RowKit Go.Shelf Go.Sort Go.Lib
theorem zc8 (w:V) (a:Gw w):Calls Tryz.prog 10 #[] w fun e w'=>e = .returned (N true)∧Ext w w':=by
 have ak:=hd9 a;have HR:=hd9 (fun(W:V) (m:Ext w W) (v1 v2:J) (h1:IsPts W v1 brickS) (h2:IsPts W v2 brickS)=>znK W v1 v2 h1 h2 (a.ext m));have HB:=hd9 (fun(W:V) (m:Ext w W) (Q T:J) (hg:IsPts W Q exG) (hp:IsPls W T ex3)=>zmH W Q T hg hp (a.ext m));have HD:=hd9 (fun(W:V) (m:Ext w W) (Q T v:J) (hg:IsPts W Q exG) (hp:IsPls W T ex3) (hv:IsPts W v brickS)=>zmI W Q T v hg hp hv (a.ext m));unfold exA exB at HR;unfold exD at HD;have E0:=eR w;clear a;go_enter Tryz.func10,Tryz.ntmps10
 go_upto_region 2 with (first|(go_at_call 33;(with_reducible refine(zbl _ ⟨#[97]⟩ 0 0).mono ?_);rintro e w1 ⟨v1,rfl,u,z⟩;have E1:Ext w w1:=E0.trans z)|(go_at_call 33;(with_reducible refine(zbl _ ⟨#[98]⟩ 200 0).mono ?_);rintro e w2 ⟨v2,rfl,x,i⟩;have E2:Ext w w2:=E1.trans i)|(go_at_call 12;(with_reducible refine(HR.out _ E2 _ _ (u.ext' i) x).mono ?_);rintro e w3 ⟨rfl,D⟩;have E3:Ext w w3:=E2.trans D))
 clear z i D u x
 go_upto_region 3 with (first|(go_at_call 34;(with_reducible refine(zgl _).mono ?_);rintro e w4 ⟨aC,aE,rfl,q,s,K⟩;have E4:Ext w w4:=E3.trans K)|(go_at_call 16;(with_reducible refine(HB.out _ E4 _ _ q s).mono ?_);rintro e w5 ⟨vb,rfl,h,P⟩;obtain⟨ba,bn,bc,rfl⟩:=h.form3;have E5:Ext w w5:=E4.trans P))
 clear K P q s
 go_upto_region 4 with (first|(go_at_call 34;(with_reducible refine(zgl _).mono ?_);rintro e w6 ⟨aD,aF,rfl,r,t,j⟩;have E6:Ext w w6:=E5.trans j)|(go_at_call 33;(with_reducible refine(zbl _ ⟨#[100]⟩ 50 300).mono ?_);rintro e w7 ⟨v7,rfl,y,f⟩;have E7:Ext w w7:=E6.trans f)|(go_at_call 15;(with_reducible refine(HD.out _ E7 _ _ _ (r.ext' f) (t.ext' f) y).mono ?_);rintro e w8 ⟨rfl,l⟩;have E8:Ext w w8:=E7.trans l))
 have h:=h.ext ((j.trans f).trans l);clear j f l r t y E0 E1 E2 E3 E4 E5 E6 E7 HR HB HD;obtain rfl:=zm7 h;obtain⟨g,a1,m1,c1,s1,b1,n1,d1,a2,m2,c2,s2,b2,n2,d2,a3,m3,c3,s3,b3,n3,d3,a4,m4,c4,s4,b4,n4,d4,rfl,aa,al,hc,r1,r2,r3,r4⟩:=zmd h (k:=0) rfl;obtain⟨g',a5,m5,c5,s5,b5,n5,d5,a6,m6,c6,s6,b6,n6,d6,a7,m7,c7,s7,b7,n7,d7,a8,m8,c8,s8,b8,n8,d8,e,o,p,n,r5,r6,r7,r8⟩:=zmd h (k:=1) rfl;obtain rfl:g=g':=by cases e;rfl
 simp only [CellL,Nat.reduceMul,Nat.reduceAdd,and_true]at hc n;obtain⟨q0,q1,q2,q3,q4,q5,q6,q7,q8,q9,av,aw,ax,ay,az,aA,aB⟩:=hc;obtain⟨p0,p1,p2,p3,p4,p5,p6,p7,p8,p9,am,an,ao,ap,aq,ar,au⟩:=n;clear e o p aa;have E:=hd9 E8;clear E8 h
 go_wp2_with(first|(go_at_call 37;(with_reducible refine(zmJ _ _ _ _ _ _ _ _ _ _ _ _ _ _ _ (r1.ext ?_) (r2.ext ?_)).mono ?_);exact eA;exact eA;rintro e ab ⟨rfl,b⟩;obtain⟨ae,ah⟩:=b.cells;(have aG:g<ab.heap.size:=by have:=b.size;omega))|(go_at_call 37;(with_reducible refine(zhf _ _ _ _ _ _ _ _ _ _ _ _ _ _ _ (r3.ext ?_) (r4.ext ?_)).mono ?_);exact eA;exact eA;rintro e ac ⟨rfl,c⟩;obtain⟨af,ai⟩:=c.cells;(have aH:g<ac.heap.size:=by have:=c.size;omega))|(go_at_call 37;(with_reducible refine(zhf _ _ _ _ _ _ _ _ _ _ _ _ _ _ _ (r5.ext ?_) (r6.ext ?_)).mono ?_);exact eA;exact eA;rintro e ad ⟨rfl,d⟩;obtain⟨ag,aj⟩:=d.cells;(have aI:g<ad.heap.size:=by have:=d.size;omega)))
 go_ret;exact⟨rfl,((E.out.trans b).trans c).trans d⟩
end
section
open Go.RowKit Go.Shelf Go.Sort
def IsPr (w:V) (v:J) (ps:List (Int×Int)):Prop:=∃T,Sl T 2 PP w v ps
theorem IsPr.ext' {w w':V} {v:J} {ps:List (Int×Int)} (h:IsPr w v ps) (k:Ext w w'):IsPr w' v ps:=by obtain⟨T,h⟩:=h;exact⟨T,Sl.ext (w:=w) (w':=w') h (fun _ _ h=>h) k⟩
theorem IsPr.form {w:V} {v:J} {ps:List (Int×Int)} (h:IsPr w v ps):∃a c,v=Z a ps.length c:=h.elim fun _ h=>Sl.form h
theorem IsPr.form3 {w:V} {v:J} {ps:List (Int×Int)} (h:IsPr w v ps):∃a n c,v=Z a n c:=h.elim fun _ h=>Cop.form3 h
theorem IsPr.len {w:V} {a:Option Addr} {n c:Nat} {ps:List (Int×Int)} (h:IsPr w (Z a n c) ps):n=ps.length:=h.elim fun _ h=>Sl.len h
theorem IsPr.le {w:V} {a:Option Addr} {n c:Nat} {ps:List (Int×Int)} (h:IsPr w (Z a n c) ps):ps.length≤c∧c≤maxLen:=h.elim fun _ h=>Sl.le h
theorem IsPr.at' {w:V} {a:Option Addr} {n c:Nat} {ps:List (Int×Int)} (h:IsPr w (Z a n c) ps) {i:Nat} {p:Int×Int} (k:ps[i]?=M p) :
  ∃b o,a=M ⟨b,o,X⟩∧b<w.heap.size∧w.cell? ⟨b,o+i*2,X⟩=M (O Y p.1)∧w.cell? ⟨b,o+i*2+1,X⟩=M (O Y p.2):=by
 obtain⟨T,h⟩:=h;obtain⟨b,o,d,rfl,j,l,g,f⟩:=Sl.at h k;have e:d=[O Y p.1,O Y p.2]:=g;subst e;exact⟨b,o,rfl,j,f 0 _ rfl,f 1 _ rfl⟩
def PPr (w:V) (c:List J) (p:Pl):Prop:=∃v,c=(plc p v).toList∧IsPr w v p.shape∧0≤p.skin
def IsWr (w:V) (v:J) (ps:List Pl):Prop:=∃T,Sl T 10 PPr w v ps
theorem IsWr.ext' {w w':V} {v:J} {ps:List Pl} (h:IsWr w v ps) (k:Ext w w'):IsWr w' v ps:=by obtain⟨T,h⟩:=h;exact⟨T,Sl.ext (w:=w) (w':=w') h (fun _ _ ⟨v,a,b,c⟩=>⟨v,a,b.ext' k,c⟩) k⟩
theorem IsWr.form {w:V} {v:J} {ps:List Pl} (h:IsWr w v ps):∃a c,v=Z a ps.length c:=h.elim fun _ h=>Sl.form h
theorem IsWr.form3 {w:V} {v:J} {ps:List Pl} (h:IsWr w v ps):∃a n c,v=Z a n c:=h.elim fun _ h=>Cop.form3 h
theorem IsWr.len {w:V} {a:Option Addr} {n c:Nat} {ps:List Pl} (h:IsWr w (Z a n c) ps):n=ps.length:=h.elim fun _ h=>Sl.len h
theorem IsWr.le {w:V} {a:Option Addr} {n c:Nat} {ps:List Pl} (h:IsWr w (Z a n c) ps):ps.length≤c∧c≤maxLen:=h.elim fun _ h=>Sl.le h
theorem IsWr.at' {w:V} {a:Option Addr} {n c:Nat} {ps:List Pl} (h:IsWr w (Z a n c) ps) {i:Nat} {p:Pl} (m:ps[i]?=M p) :
  ∃b o v,a=M ⟨b,o,X⟩∧b<w.heap.size∧IsPr w v p.shape∧0≤p.skin∧∀(j:Nat) u,(plc p v)[j]?=M u→w.cell? ⟨b,o+i*10+j,X⟩=M u:=by
 obtain⟨T,h⟩:=h;obtain⟨b,o,d,rfl,g,q,⟨v,rfl,e,f⟩,k⟩:=Sl.at h m;exact⟨b,o,v,rfl,g,e,f,fun j u l=>k j u (by rw [Array.getElem?_toList];exact l)⟩
def longB (p:Pl):Bool:=decide (20<p.shape.length) || decide (40<p.name.size)
theorem zbP (w:V) (b:ByteArray) (v:J) (i:List (Int×Int)) (d k l o:Int) (h:IsPr w v i) :
  Calls Tryz.prog 9 #[F #[.string b,v,O Y d,O Y k,O Y l,O Y o]] w fun e q=>e = .returned (N (decide (20<i.length) || decide (40<b.size)))∧Ext w q:=by
 obtain⟨a,c,rfl⟩:=h.form;obtain⟨n,p⟩:=gX i.length;rw [p];obtain⟨m,j⟩:=gX b.size
 by_cases f:20<n
 ·have g:(20:Int)<(n:Int):=oM
  have e:(decide (20<n) || decide (40<b.size))=true:=by simp [f]
  rw [e];clear f e j;go_enter Tryz.func9,Tryz.ntmps9;go_wp2;go_ret;exact⟨rfl,eA⟩
 ·have g:¬(20:Int)<(n:Int):=oM
  have e:(decide (20<n) || decide (40<b.size))=decide (40<m):=by simp [f,j]
  rw [e];clear f e;go_enter Tryz.func9,Tryz.ntmps9;go_wp2;go_ret;exact⟨by simp;omega,eA⟩
def fewB (g:List (Int×Int)) (ps:List Pl):Bool:=!ps.any longB&&(decide (ps.length≤8)&&decide (g.length≤50))
def FwS (w:V) (a b:J) (ps:List Pl) (g:Nat) (t3:J) (W:V):Prop:=
 ∃i:Nat,i≤ps.length∧t3=O Y (i:Nat)∧g=ps.length-i∧Ext w W∧W.heap[w.heap.size]?=M (I #[a,b] 46 (0,0))∧∀j y,j<i→ps[j]?=M y→longB y=false
theorem zor (w:V) (vg vp:J) (g:List (Int×Int)) (ps:List Pl) (hg:IsPr w vg g) (t:IsWr w vp ps) :
  Calls Tryz.prog 13 #[F #[vg,vp]] w fun e w'=>e = .returned (N (fewB g ps))∧Ext w w':=by
 obtain⟨ga,gc,rfl⟩:=hg.form;obtain⟨pa,pc,rfl⟩:=t.form;obtain⟨n,hn⟩:=gX ps.length;obtain⟨m,hm⟩:=gX g.length;have s:=t.le;rw [hm];rw [hn]at t s ⊢;unfold maxLen at s;have ai:n≤9223372036854775807:=oM
 have a:=hd9 hn;have Hm:=hd9 hm;have Hp:=hd9 t;obtain⟨fb,l⟩:=gX (fewB g ps);rw [l];have x:=hd9 l;clear hn s hg t hm l;go_enter Tryz.func13,Tryz.ntmps13;go_wp2
 go_loopg [3] n (FwS w (Z ga m gc) (Z pa n pc) ps)
 case atStart=>exact⟨0,by omega,rfl,by rw [a.out];rfl,eA,aN w _,fun j y K=>by omega⟩
 case round =>
  obtain⟨i,hi,rfl,rfl,hx,c,h⟩:=hrel;rw [a.out]at hi;have w0:=qcB c (i:=0) (u:=Z ga m gc) rfl;have w1:=qcB c (i:=1) (u:=Z pa n pc) rfl;have f:=hd9 h;have D:=hd9 hx;have Q:=hd9 c;clear h
  by_cases ac:i<n
  ·obtain⟨p,hq⟩:∃q,ps[i]?=M q:=⟨ps[i]'(by rw [a.out];omega),by simp [a.out,ac]⟩
   obtain⟨b,o,v,rfl,hb,hv,_,k⟩:=(Hp.out.ext' hx).at' hq;have P:=hd9 (fun W (hW:Ext wr W)=>zbP W p.name v p.shape p.depth p.density p.gx p.gz (hv.ext' hW));obtain⟨lb,r⟩:=gX (longB p);rw [show (decide (20<p.shape.length) || decide (40<p.name.size))=lb from r]at P;have z:=hd9 r;obtain⟨va,vn,vc,rfl⟩:=hv.form3;have T:=k 0 (.string p.name) rfl;have ad:=k 1 (Z va vn vc) rfl;have ae:=k 2 (O Y p.depth) rfl;have af:=k 3 (O Y p.density) rfl;have ag:=k 4 (O Y p.gx) rfl;have ah:=k 5 (O Y p.gz) rfl;simp only [Nat.add_zero]at T;have Hq:=hd9 hq;have p1:(0:Int)≤(i:Int):=oM
   have p2:(i:Int)<(n:Int):=oM
   clear k hq hv r hx c
   cases lb with
   | true =>
    have e:fb=false:=by
     rw [←x.out];unfold fewB;rw [show ps.any longB=true from List.any_eq_true.2 ⟨p,lM Hq.out,z.out⟩];rfl
    subst e
    go_wp2_with(go_at_call 9;(with_reducible refine(P.out _ (eR _)).mono ?_);rintro e w1 ⟨rfl,d⟩)
    go_ret;exact⟨rfl,D.out.trans d⟩
   | false =>
    go_wp2_with(go_at_call 9;(with_reducible refine(P.out _ (eR _)).mono ?_);rintro e w1 ⟨rfl,d⟩)
    go_roundg (n-(i+1))
    case measure=>have:=a.out;omega
    case rel =>
     refine⟨i+1,by have:=a.out;omega,by go_num,by rw [a.out],D.out.trans d,d.heapS Q.out,fun j y K hy=>?_⟩
     by_cases ab:j=i
     ·subst ab;rw [Hq.out]at hy;cases hy;exact z.out
     ·exact f.out j y oM hy
  ·obtain rfl:n=i:=oM
   have e:fb=(decide (n≤8)&&decide (m≤50)):=by
    rw [←x.out];unfold fewB
    rw [show ps.any longB=false from by
     rw [List.any_eq_false];intro p t;obtain⟨j,K⟩:=List.mem_iff_getElem?.1 t;rw [f.out j p (by have:=(lS.1 K).1;rw [a.out]at this;exact this) K]
     decide,a.out,Hm.out]
    rfl
   subst e
   by_cases h8:n≤8
   ·have aa:(n:Int)≤8:=oM
    go_wp2;go_ret;exact⟨by simp [h8];try omega,D.out⟩
   ·have aa:¬(n:Int)≤8:=oM
    go_wp2;go_ret;exact⟨by simp [h8],D.out⟩
def IntS (w:V) (xs a:List Int) (g:Nat) (t5:J) (W:V):Prop:=
 ∃i:Nat,i≤xs.length∧t5=O Y (i:Nat)∧g=xs.length-i∧Ext w W∧∀j,j<i→xs[j]?=a[j]?
theorem zos {g:List (Int×Int)} {ps:List Pl} (h:fewB g ps=true):g.length≤1000∧ps.length≤8∧∀p∈ps,p.shape.length≤1000:=by
 unfold fewB at h;simp only [Bool.and_eq_true,Bool.not_eq_true',List.any_eq_false,decide_eq_true_eq]at h;obtain⟨a,b,d⟩:=h;refine⟨by omega,b,fun p c=>?_⟩;have:=a p c;unfold longB at this;simp only [Bool.or_eq_true,decide_eq_true_eq,not_or]at this;omega
def PtS (w:V) (ps:List (Int×Int)) (g:Nat) (t3 t4:J) (W:V):Prop:=
 ∃i:Nat,i≤ps.length∧t4=O Y (i:Nat)∧g=ps.length-i∧Ext w W∧OwnC 33 2 W w.heap.size t3 ((ps.take i).map pc)
theorem ze1 (w:V) (v:J) (ps:List (Int×Int)) (h:IsPr w v ps) (aa:ps.length≤1000) :
  Calls Tryz.prog 43 #[v] w fun e u=>∃v',e = .returned v'∧OwnC 33 2 u w.heap.size v' (ps.map pc)∧Ext w u:=by
 obtain⟨a,c,rfl⟩:=h.form;obtain⟨n,hn⟩:=gX ps.length;rw [hn]at h aa ⊢;have p:=hd9 hn;have H:=hd9 h;obtain⟨R,Q⟩:∃R:Ending→V→Prop,(fun e u=>∃v',e = .returned v'∧OwnC 33 2 u w.heap.size v' (ps.map pc)∧Ext w u)=R:=⟨_,rfl⟩;rw [Q];have HR:=hd9 Q;clear hn h Q;go_enter Tryz.func43,Tryz.ntmps43;go_wp2
 go_loopg [3,4] n (PtS w ps)
 case atStart=>exact⟨0,by omega,rfl,by rw [p.out];rfl,eR _,by simpa using OwnC.nil _ _ _ _⟩
 case round =>
  obtain⟨i,hi,rfl,rfl,D,d⟩:=hrel;rw [p.out]at hi;obtain⟨va,vn,vc,rfl⟩:=d.form3;have f:=hd9 d;have P:=hd9 D
  by_cases W:i<n
  ·obtain⟨⟨x,z⟩,r⟩:∃q,ps[i]?=M q:=⟨ps[i]'(by rw [p.out];omega),by simp [p.out,W]⟩
   obtain⟨b,o,rfl,hb,d0,d1⟩:=(H.out.ext' D).at' r;obtain⟨b0,o0,e0,ac,_⟩:=H.out.at' r
   cases e0
   dsimp only at d0 d1;have Hq:=hd9 r;have p1:(0:Int)≤(i:Int):=oM
   have p2:(i:Int)<(n:Int):=oM
   clear r D d;go_wp2;refine wp_region_held_drew (S:=CellL [(⟨b,o+i*2,X⟩,O Y x),(⟨b,o+i*2+1,X⟩,O Y z)]) kM ⟨d0,d1,trivial⟩ (fun l=>?_);refine sN 0 ?_
   iterate 12
    refine tkn ?_
   refine oN ?_;refine cl1 (i:=12) fun K s=>?_
   go_simp;refine kO s (cE l ((eR _).alloc _)) (fun l=>?_);clear s K;have y:Ext wr ((wr.alloc (I #[O Y x,O Y z] 33)).drew):=((eR wr).alloc _).drew;refine cl1 (i:=13) fun K s=>?_
   refine zeu (T:=33) (t:=32) (z:=F #[O Y 0,O Y 0]) (k:=2) (bytes:=16) (v:=Z va vn vc) (base:=w.heap.size) zbM rfl dM dM Tryz.underlying32 rfl _ _ rfl rfl (f.out.ext y) (ad:=⟨wr.heap.size,0,X⟩) (m:=1) (c:=1) rfl [pc (x,z)] rfl (by simp [pc]) (by exact zjY wr x z 33) (zmh x z) (by rw [lL,List.length_take];omega) (by have:=y.size;have:=P.out.size;omega) ?_;intro v' w9 j g ab;obtain⟨a9,n9,c9,rfl⟩:=j.form3;have zb:b<wr.heap.size:=hb;refine kO s (CellL.grown l g (fun q r e=>?_)) (fun l=>?_)
   ·have h9:=(f.out.lt _ e.symm).1
    simp at r
    rcases r with rfl|rfl<;>(dsimp only at h9;omega)
   clear s K;refine tk1 (i:=14) ?_;refine wpAnyH_done kM ?_ _;go_wp2
   go_roundg (n-(i+1))
   case measure=>have:=p.out;omega
   case rel =>
    refine⟨i+1,by have:=p.out;omega,by go_num,by rw [p.out],(P.out.trans y).thenB (zah (base:=w.heap.size) g (by have:=y.size;have:=P.out.size;omega) (fun k hk=>(f.out.lt k hk).1)) (nE _),?_⟩;rw [zab _ _ _ Hq.out,List.map_append];exact j
  ·obtain rfl:n=i:=oM
   have e:ps.take n=ps:=lT (by rw [p.out];exact nE _);rw [e]at d;go_wp2;rw [←HR.out];exact⟨_,rfl,d,D⟩
theorem zkD (w:V) (t:ByteArray) (v:J) (T:List (Int×Int)) (d l m o:Int) (h:IsPr w v T) (ac:T.length≤1000) :
  Calls Tryz.prog 40 #[F #[.string t,v,O Y d,O Y l,O Y m,O Y o]] w fun e w'=>∃v',e = .returned (F #[.string t,v',O Y d,O Y l,O Y m,O Y o])∧IsPts w' v' T∧Ext w w'∧∀j,v'.ownBlock=M j→w.heap.size≤j:=by
 have HP:=hd9 (fun W (hW:Ext w W)=>ze1 W v T (h.ext' hW) ac);obtain⟨a,n,c,rfl⟩:=h.form3;clear h;go_enter Tryz.func40,Tryz.ntmps40;go_wp2;refine wp_region_held_drew (S:=CellL [(⟨w.heap.size,0,X⟩,.string t),(⟨w.heap.size,1,X⟩,Z a n c),(⟨w.heap.size,2,X⟩,O Y d),(⟨w.heap.size,3,X⟩,O Y l),(⟨w.heap.size,4,X⟩,O Y m),(⟨w.heap.size,5,X⟩,O Y o)]) kM cA (fun r=>?_);refine sN 0 ?_
 iterate 4
  refine tkn ?_
 refine oN ?_;refine sN 5 ?_
 iterate 11
  refine tkn ?_
 refine oN ?_;refine cl1 (i:=4) fun K z=>?_
 go_simp
 (with_reducible refine cM (HP.out _ eA) ?_)
 rintro e w3 ⟨v3,rfl,f,x⟩;obtain⟨D,Q,P,rfl⟩:=f.form3
 go_wp2_with fail
 refine kO z (cE r x) (fun r=>?_);clear z K;refine tk1 (i:=16) ?_;have ad:=f.pts;have k:=x.heapS (zeD w (I #[.string t,Z a n c,O Y d,O Y l,O Y m,O Y o] 26) (I #[.string ⟨#[]⟩,Z X 0 0,O Y 0,O Y 0,O Y 0,O Y 0] 35));have k0:=qcB k (i:=0) (u:=.string ⟨#[]⟩) rfl;have k1:=qcB k (i:=1) (u:=Z X 0 0) rfl;have k2:=qcB k (i:=2) (u:=O Y 0) rfl;have k3:=qcB k (i:=3) (u:=O Y 0) rfl;have k4:=qcB k (i:=4) (u:=O Y 0) rfl;have k5:=qcB k (i:=5) (u:=O Y 0) rfl;have kf:=qfB k
 have g:=hd9 (show ∀q∈[((⟨w.heap.size,0,X⟩:Addr),Value.string t),(⟨w.heap.size,1,X⟩,Z a n c),(⟨w.heap.size,2,X⟩,O Y d),(⟨w.heap.size,3,X⟩,O Y l),(⟨w.heap.size,4,X⟩,O Y m),(⟨w.heap.size,5,X⟩,O Y o)],w.heap.size+1≠q.1.block from fun q hq h=>by
  simp at hq
  rcases hq with rfl|rfl|rfl|rfl|rfl|rfl<;>(dsimp only at h;omega))
 have aa:Ext w w3:=((((eR w).alloc _).alloc _).drew).trans x;have b:=hd9 k;clear k;refine cl1 (i:=17) fun K z=>?_
 go_simp;refine kO z (CellL.set (p:=⟨w.heap.size+1,5,X⟩) (CellL.set (p:=⟨w.heap.size+1,4,X⟩) (CellL.set (p:=⟨w.heap.size+1,3,X⟩) (CellL.set (p:=⟨w.heap.size+1,2,X⟩) (CellL.set (p:=⟨w.heap.size+1,1,X⟩) (CellL.set (p:=⟨w.heap.size+1,0,X⟩) r g.out _) g.out _) g.out _) g.out _) g.out _) g.out _) (fun r=>?_);clear z K;refine wpAnyH_done kM ?_ _;go_wp2;obtain⟨W5,s⟩:=gX (((((((w3.setCell ⟨w.heap.size+1,0,X⟩ (.string t)).setCell ⟨w.heap.size+1,1,X⟩ (Z D Q P)).setCell ⟨w.heap.size+1,2,X⟩ (O Y d)).setCell ⟨w.heap.size+1,3,X⟩ (O Y l)).setCell ⟨w.heap.size+1,4,X⟩ (O Y m)).setCell ⟨w.heap.size+1,5,X⟩ (O Y o)))
 have y:W5.heap[w.heap.size+1]?=M (I #[.string t,Z D Q P,O Y d,O Y l,O Y m,O Y o] 35 (0,0)):=by
  rw [←s];exact zao (zao (zao (zao (zao (zao b.out 0 _) 1 _) 2 _) 3 _) 4 _) 5 _
 have hk:KeepT 33 w3 W5:=by
  rw [←s];exact(((((KeepT.refl 33 w3).set (p:=⟨w.heap.size+1,0,X⟩) b.out dM _).set (p:=⟨w.heap.size+1,1,X⟩) (zao b.out 0 _) dM _).set (p:=⟨w.heap.size+1,2,X⟩) (zao (zao b.out 0 _) 1 _) dM _).set (p:=⟨w.heap.size+1,3,X⟩) (zao (zao (zao b.out 0 _) 1 _) 2 _) dM _).set (p:=⟨w.heap.size+1,4,X⟩) (zao (zao (zao (zao b.out 0 _) 1 _) 2 _) 3 _) dM _ |>.set (p:=⟨w.heap.size+1,5,X⟩) (zao (zao (zao (zao (zao b.out 0 _) 1 _) 2 _) 3 _) 4 _) dM _
 have ab:Ext w W5:=by
  rw [←s];exact((((((aa.set dO _).set dO _).set dO _).set dO _).set dO _).set dO _)
 rw [s];have b0:=qcB y (i:=0) (u:=.string t) rfl;have b1:=qcB y (i:=1) (u:=Z D Q P) rfl;have b2:=qcB y (i:=2) (u:=O Y d) rfl;have b3:=qcB y (i:=3) (u:=O Y l) rfl;have b4:=qcB y (i:=4) (u:=O Y m) rfl;have b5:=qcB y (i:=5) (u:=O Y o) rfl;exact bR (v:=F #[.string t,Z D Q P,O Y d,O Y l,O Y m,O Y o]) (by simp [results,Tryz.results40,go_sem,b0,b1,b2,b3,b4,b5]) rfl ⟨_,rfl,ad.keep' hk,ab,fun j hj=>by have:=(f.lt j hj).1;simp only [wZ,qdZ]at this;omega⟩
theorem zaR (w:V) (r:ByteArray) (v:J) (Q:List (Int×Int)) (d k l m y s t x:Int) (h:IsPr w v Q) (aa:Q.length≤1000) :
  Calls Tryz.prog 11 #[F #[.string r,v,O Y d,O Y k,O Y l,O Y m,O Y y,O Y s,O Y t,O C x]] w
   fun e w'=>∃v',e = .returned (F #[.string r,v',O Y d,O Y k,O Y l,O Y m,O Y y,O Y s,O Y t,O C x])∧IsPts w' v' Q∧Ext w w'∧∀j,v'.ownBlock=M j→w.heap.size≤j:=by
 have HP:=hd9 (fun W (hW:Ext w W)=>zkD W r v Q d k l m (h.ext' hW) aa);obtain⟨a,n,c,rfl⟩:=h.form3;clear h;go_enter Tryz.func11,Tryz.ntmps11;go_wp2;refine wp_region_held_drew (S:=CellL [(⟨w.heap.size,0,X⟩,.string r),(⟨w.heap.size,1,X⟩,Z a n c),(⟨w.heap.size,2,X⟩,O Y d),(⟨w.heap.size,3,X⟩,O Y k),(⟨w.heap.size,4,X⟩,O Y l),(⟨w.heap.size,5,X⟩,O Y m),(⟨w.heap.size,6,X⟩,O Y y),(⟨w.heap.size,7,X⟩,O Y s),(⟨w.heap.size,8,X⟩,O Y t),(⟨w.heap.size,9,X⟩,O C x)]) kM cA (fun g=>?_);refine sN 0 ?_
 iterate 2
  refine tkn ?_
 refine oN ?_;refine sN 3 ?_
 iterate 11
  refine tkn ?_
 refine oN ?_;refine cl1 (i:=2) fun K D=>?_
 go_simp
 (with_reducible refine cM (HP.out _ eA) ?_)
 rintro e w3 ⟨v3,rfl,P,o,ab⟩;obtain⟨a3,n3,c3,rfl⟩:=form3 P
 go_wp2_with fail
 refine kO D (cE g o) (fun g=>?_);clear D K;refine tk1 (i:=14) ?_;have f:=o.heapS (zeD w (I #[.string r,Z a n c,O Y d,O Y k,O Y l,O Y m,O Y y,O Y s,O Y t,O C x] 28) (I #[.string ⟨#[]⟩,Z X 0 0,O Y 0,O Y 0,O Y 0,O Y 0,O Y 0,O Y 0,O Y 0,O C 0] 37));have k0:=qcB f (i:=0) (u:=.string ⟨#[]⟩) rfl;have k1:=qcB f (i:=1) (u:=Z X 0 0) rfl;have k2:=qcB f (i:=2) (u:=O Y 0) rfl;have k3:=qcB f (i:=3) (u:=O Y 0) rfl;have k4:=qcB f (i:=4) (u:=O Y 0) rfl;have k5:=qcB f (i:=5) (u:=O Y 0) rfl;have k6:=qcB f (i:=6) (u:=O Y 0) rfl;have k7:=qcB f (i:=7) (u:=O Y 0) rfl;have k8:=qcB f (i:=8) (u:=O Y 0) rfl;have k9:=qcB f (i:=9) (u:=O C 0) rfl;have kf:=qfB f
 have b:=hd9 (show ∀q∈[((⟨w.heap.size,0,X⟩:Addr),Value.string r),(⟨w.heap.size,1,X⟩,Z a n c),(⟨w.heap.size,2,X⟩,O Y d),(⟨w.heap.size,3,X⟩,O Y k),(⟨w.heap.size,4,X⟩,O Y l),(⟨w.heap.size,5,X⟩,O Y m),(⟨w.heap.size,6,X⟩,O Y y),(⟨w.heap.size,7,X⟩,O Y s),(⟨w.heap.size,8,X⟩,O Y t),(⟨w.heap.size,9,X⟩,O C x)],w.heap.size+1≠q.1.block from fun q hq h=>by
  simp at hq
  rcases hq with rfl|rfl|rfl|rfl|rfl|rfl|rfl|rfl|rfl|rfl<;>(dsimp only at h;omega))
 have T:Ext w w3:=((((eR w).alloc _).alloc _).drew).trans o;have z:=hd9 f;clear f;refine cl1 (i:=15) fun K D=>?_
 go_simp;refine kO D (CellL.set (p:=⟨w.heap.size+1,9,X⟩) (CellL.set (p:=⟨w.heap.size+1,8,X⟩) (CellL.set (p:=⟨w.heap.size+1,7,X⟩) (CellL.set (p:=⟨w.heap.size+1,6,X⟩) (CellL.set (p:=⟨w.heap.size+1,5,X⟩) (CellL.set (p:=⟨w.heap.size+1,4,X⟩) (CellL.set (p:=⟨w.heap.size+1,3,X⟩) (CellL.set (p:=⟨w.heap.size+1,2,X⟩) (CellL.set (p:=⟨w.heap.size+1,1,X⟩) (CellL.set (p:=⟨w.heap.size+1,0,X⟩) g b.out _) b.out _) b.out _) b.out _) b.out _) b.out _) b.out _) b.out _) b.out _) b.out _) (fun g=>?_);clear D K;refine wpAnyH_done kM ?_ _;go_wp2;have ad:=zaa z.out;have ac:IsPts w3 (Z a3 n3 c3) Q:=P;have n0:NoT 33 w3 (w.heap.size+1):=by intro cs fr e;rw [z.out]at e;cases e
 refine bR (v:=F #[.string r,Z a3 n3 c3,O Y d,O Y k,O Y l,O Y m,O Y y,O Y s,O Y t,O C x]) (by simp [results,Tryz.results11,go_sem,k0,k1,k2,k3,k4,k5,k6,k7,k8,k9,kf]) rfl ⟨_,rfl,?_,?_,fun j hj=>by have:=ab j hj;simp only [wZ,qdZ]at this;omega⟩
 ·refine ac.keep' ?_
  repeat(first|with_reducible exact KeepT.refl _ _|(with_reducible refine KeepT.setN ?_ ?_ _)|with_reducible exact n0|with_reducible refine NoT.set ?_ _ _)
 ·repeat(first|with_reducible exact T|(with_reducible refine Ext.set ?_ dO _))
theorem PPl.keep {w w':V} {c:List J} {p:Pl} (h:PPl w c p) (k:KeepT 33 w w'):PPl w' c p:=by
 obtain⟨v,a,b,d⟩:=h;exact⟨v,a,b.keep' k,d⟩
theorem OwnC.ne_blkD {T T':TypeId} {k:Nat} {w:V} {base:Nat} {v:J} {cs:List (List J)} (h:OwnC T k w base v cs) {b:Nat} {c:Array J} {d:Nat×Nat} (a:w.heap[b]?=M (I c T' d)) (i:T'≠T):v.ownBlock≠M b:=by
 intro e
 rcases h.2.2 with ⟨f,_⟩|⟨g,cap,cur,hv,_,j,_⟩
 ·rw [f]at e;cases e
 ·rw [hv]at e;cases e;rw [j]at a;cases a;exact i rfl
theorem zmV:(Tryz.prog.info? 37).map (fun i=>(i.zero,i.size,i.bytes))=M (M (F #[.string ⟨#[]⟩,Z X 0 0,O Y 0,O Y 0,O Y 0,O Y 0,O Y 0,O Y 0,O Y 0,O C 0]),10,104):=kM
def Apart (L:Nat) (c:List J):Prop:=∀j,(c.getD 1 (N false)).ownBlock=M j→L≤j
def OwnPlA (w:V) (base L:Nat) (v:J) (ps:List Pl):Prop:=∃cs,OwnC 37 10 w base v cs∧cs.length=ps.length∧(∀(i:Nat) c p,cs[i]?=M c→ps[i]?=M p→PPl w c p)∧∀c∈cs,Apart L c
theorem OwnPlA.own {w:V} {base L:Nat} {v:J} {ps:List Pl} (h:OwnPlA w base L v ps):OwnPl w base v ps:=by
 obtain⟨a,b,c,d,_⟩:=h;exact⟨a,b,c,d⟩
def WlS (w e:V) (a:Nat) (f h v3:J) (ps:List Pl) (g:Nat) (t4:J) (W:V):Prop:=
 ∃(i:Nat) (d:J) (b:List (List J)),i≤ps.length∧t4=O Y (i:Nat)∧g=ps.length-i∧e.grownBy W (M a)∧W.heap[a]?=M (I #[v3,d] 50 (0,0)) ∧
  OwnC 37 10 W (a+1) d b∧b.length=i∧(∀(j:Nat) c p,b[j]?=M c→ps[j]?=M p→PPl W c p)∧∀c∈b,Apart a c
theorem zkL (w:V) (vg vp:J) (g:List (Int×Int)) (ps:List Pl) (hg:IsPr w vg g) (hp:IsWr w vp ps) (a0:g.length≤1000) (aD:ps.length≤1000) (aE:∀p∈ps,p.shape.length≤1000) :
  Calls Tryz.prog 14 #[F #[vg,vp]] w fun e w'=>∃vg' vp' L,e = .returned (F #[vg',vp'])∧OwnC 33 2 w' w.heap.size vg' (g.map pc)∧(∀j,vg'.ownBlock=M j→j<L)∧OwnPlA w' w.heap.size L vp' ps∧Ext w w':=by
 have aP:=hd9 (fun W (hW:Ext w W)=>ze1 W vg g (hg.ext' hW) a0);obtain⟨ga,gn,gc,rfl⟩:=hg.form3;obtain⟨pa,pn,ae,rfl⟩:=hp.form3;have Hn:=hd9 hp.len.symm;have Hp:=hd9 hp;have aV:=hd9 aE;have br:pn≤1000:=by rw [hp.len];exact aD
 obtain⟨R,hR⟩:∃R:Ending→V→Prop,(fun e w'=>∃vg' vp' L,e = .returned (F #[vg',vp'])∧OwnC 33 2 w' w.heap.size vg' (g.map pc)∧(∀j,vg'.ownBlock=M j→j<L)∧OwnPlA w' w.heap.size L vp' ps∧Ext w w')=R:=⟨_,rfl⟩;rw [hR];have HR:=hd9 hR;clear hg hp hR aE aD;go_enter Tryz.func14,Tryz.ntmps14
 go_wp2_with(go_at_call 43;(with_reducible refine(aP.out _ ?_).mono ?_);exact eA;rintro e w3 ⟨v3,rfl,s,ak⟩;obtain⟨a3,n3,c3,rfl⟩:=s.form3)
 have K0:=ak.heapS (zlQ w (I #[Z ga gn gc,Z pa pn ae] 46) (I #[Z X 0 0,Z X 0 0] 50));have K1:=ak.heapS (zeD w (I #[Z ga gn gc,Z pa pn ae] 46) (I #[Z X 0 0,Z X 0 0] 50));obtain⟨b3,ag⟩:=gX w3.heap.size;obtain⟨w4,ac⟩:=gX (w3.alloc (I #[Z a3 n3 c3,Z X 0 0] 50));have aa:Ext w3 w4:=by rw [←ac];exact(eR w3).alloc _
 have a8:w4.heap.size=b3+1:=by rw [←ac];simp [ag]
 have au:w4.heap[b3]?=M (I #[Z a3 n3 c3,Z X 0 0] 50 (0,0)):=by rw [←ac];exact qhA _ _ _ ag.symm
 have aw:Ext w w4:=(((((eR w).alloc _).alloc _).trans ak).trans aa);have aG:=s.ext aa
 have aH:∀j,(Value.slice a3 n3 c3).ownBlock=M j→w.heap.size+1<j∧j<b3:=fun j hj=>by
  obtain⟨q1,q2⟩:=s.lt j hj;simp only [wZ,qdZ]at q1;exact⟨by omega,by omega⟩
 have ba:=zaa K1;rw [ag]at ba ⊢;rw [ac];have aL:=hd9 (aa.heapS K0);have aM:=hd9 (aa.heapS K1);have aq:=hd9 au;have aQ:=hd9 aw;have aW:=hd9 aG;have aX:=hd9 aH;clear K0 K1 ac aa au aw aG aH s ak ag;go_wp2
 go_loopg [4] pn (WlS w w4 b3 (Z ga gn gc) (Z pa pn ae) (Z a3 n3 c3) ps)
 case atStart=>exact⟨0,_,[],by omega,rfl,by rw [Hn.out];rfl,zmO _ _,aq.out,by rw [←a8];exact OwnC.nil _ _ _ _,rfl,fun j c p a=>by simp at a,fun c a=>by cases a⟩
 case round =>
  obtain⟨i,vs,cs,hi,rfl,rfl,y,ab,r,aA,aj,ai⟩:=hrel;rw [Hn.out]at hi;obtain⟨va,vn,vc,rfl⟩:=r.form3;have aF:=y.size;have ah:=(y.block w.heap.size oM (by simp;omega)).trans aL.out;have bc:=qcB ah (i:=0) (u:=Z ga gn gc) rfl;have bd:=qcB ah (i:=1) (u:=Z pa pn ae) rfl;have bf:=qcB ab (i:=1) (u:=Z va vn vc) rfl;have be:=qcB ab (i:=0) (u:=Z a3 n3 c3) rfl;have ap:Ext w wr:=znL aQ.out y oM
  by_cases a4:i<pn
  ·obtain⟨p,hq⟩:∃q,ps[i]?=M q:=⟨ps[i]'(by rw [Hn.out];omega),by simp [Hn.out,a4]⟩
   obtain⟨b,o,v,rfl,hb,hv,a6,a⟩:=(Hp.out.ext' ap).at' hq;obtain⟨b0,o0,v0,e0,bp,_,_,_⟩:=Hp.out.at' hq
   cases e0
   have aO:=hd9 (fun W (hW:Ext wr W)=>zaR W p.name v p.shape p.depth p.density p.gx p.gz p.way p.ax p.az p.skin (hv.ext' hW) (aV.out p (lM hq)));obtain⟨sa,sn,sc,rfl⟩:=hv.form3;have aZ:=a 0 (.string p.name) rfl;have bg:=a 1 (Z sa sn sc) rfl;have bh:=a 2 (O Y p.depth) rfl;have bi:=a 3 (O Y p.density) rfl;have bj:=a 4 (O Y p.gx) rfl;have bk:=a 5 (O Y p.gz) rfl;have bl:=a 6 (O Y p.way) rfl;have bm:=a 7 (O Y p.ax) rfl;have bn:=a 8 (O Y p.az) rfl;have bo:=a 9 (O C p.skin) rfl;simp only [Nat.add_zero]at aZ;have Hq:=hd9 hq;have aT:=hd9 y;have aS:=hd9 ab;have P:=hd9 r;have an:=hd9 aj;have am:=hd9 ai;have p1:(0:Int)≤(i:Int):=oM
   have p2:(i:Int)<(pn:Int):=oM
   clear hq hv a y ab r aj ai ah;go_wp2;refine zaV (fun i=>decide (10<i)) (CellL [(⟨b3,1,X⟩,Z va vn vc),(⟨w.heap.size,1,X⟩,Z (M ⟨b,o,X⟩) pn ae),(⟨b,o+i*10,X⟩,.string p.name),(⟨b,o+i*10+1,X⟩,Z sa sn sc),(⟨b,o+i*10+2,X⟩,O Y p.depth),(⟨b,o+i*10+3,X⟩,O Y p.density),(⟨b,o+i*10+4,X⟩,O Y p.gx),(⟨b,o+i*10+5,X⟩,O Y p.gz),(⟨b,o+i*10+6,X⟩,O Y p.way),(⟨b,o+i*10+7,X⟩,O Y p.ax),(⟨b,o+i*10+8,X⟩,O Y p.az),(⟨b,o+i*10+9,X⟩,O C p.skin)]) kM ?_ (fun d=>?_)
   ·exact cA
   refine sN 0 ?_
   iterate 7
    refine tun ?_
   refine oN ?_;refine cu1 (i:=7) fun K hK=>?_
   go_simp
   (with_reducible refine cM (aO.out _ (eR wr).drew) ?_)
   rintro e w7 ⟨v7,rfl,aI,aK,a5⟩;obtain⟨a7,n7,c7,rfl⟩:=form3 aI
   go_wp2_with fail
   refine kO hK (fun _=>cE d aK) (fun d=>?_);clear hK K;have d:=d rfl;have X7:Ext wr w7:=((eR wr).drew).trans aK;refine cu1 (i:=8) fun K hK=>?_
   go_simp;refine kO hK (fun _=>cE d ((eR _).alloc _)) (fun d=>?_);clear hK K;have d:=d rfl;have hA:Ext wr (w7.alloc (I #[.string p.name,Z a7 n7 c7,O Y p.depth,O Y p.density,O Y p.gx,O Y p.gz,O Y p.way,O Y p.ax,O Y p.az,O C p.skin] 37)):=X7.alloc _;refine cu1 (i:=9) fun K hK=>?_
   refine zeu (T:=37) (t:=48) (z:=F #[.string ⟨#[]⟩,Z X 0 0,O Y 0,O Y 0,O Y 0,O Y 0,O Y 0,O Y 0,O Y 0,O C 0]) (k:=10) (bytes:=104) (v:=Z va vn vc) (base:=b3+1) zmV rfl dM dM Tryz.underlying48 rfl _ _ rfl rfl (cs:=cs) (P.out.ext hA) (ad:=⟨w7.heap.size,0,X⟩) (m:=1) (c:=1) rfl [(#[.string p.name,Z a7 n7 c7,O Y p.depth,O Y p.density,O Y p.gx,O Y p.gz,O Y p.way,O Y p.ax,O Y p.az,O C p.skin]:Array J).toList] rfl sM (by exact zdw w7 #[.string p.name,Z a7 n7 c7,O Y p.depth,O Y p.density,O Y p.gx,O Y p.gz,O Y p.way,O Y p.ax,O Y p.az,O C p.skin] 37) (by simp [Value.oneCell']) oM (by have:=hA.size;omega) ?_;intro v' w9 l n bb;obtain⟨a9,n9,c9,rfl⟩:=l.form3;have Q:=hd9 (fun j (h:(Value.slice va vn vc).ownBlock=M j)=>P.out.lt j h);refine kO hK (fun _=>CellL.grown d n (fun q hq e=>?_)) (fun d=>?_)
   ·have h9:=(Q.out _ e.symm).1
    simp at hq
    rcases hq with rfl|rfl|rfl|rfl|rfl|rfl|rfl|rfl|rfl|rfl|rfl|rfl<;>(dsimp only at h9;omega)
   clear hK K;have d:=d rfl;refine tu1 (i:=10) ?_;have af:=zaj n (hA.heapS aS.out) (fun e=>by have:=(Q.out _ e.symm).1;omega);have n1:=qcB af (i:=1) (u:=Z va vn vc) rfl;have nf:=qfB af
   have aB:KeepT 33 wr w9:=fun x c f hx=>zaj n (hA.heapS hx) (fun e=>by
    have h8:=(P.out.ext hA).ne_blkD (hA.heapS hx) dM;exact h8 e.symm)
   have al:=hd9 af;have aU:=hd9 aB;clear af aB;refine cu1 (i:=11) fun K hK=>?_
   go_simp;refine kO hK (fun h=>nomatch h) (fun d=>?_);clear hK K;refine doneHU kM ?_ _;go_wp2
   go_roundg (pn-(i+1))
   case measure=>have:=Hn.out;omega
   case rel =>
    have aC:KeepT 33 wr (w9.setCell ⟨b3,1,X⟩ (Z a9 n9 c9)):=aU.out.set (p:=⟨b3,1,X⟩) al.out dM _;refine⟨i+1,Z a9 n9 c9,cs++[#[.string p.name,Z a7 n7 c7,O Y p.depth,O Y p.density,O Y p.gx,O Y p.gz,O Y p.way,O Y p.ax,O Y p.az,O C p.skin].toList],by rw [Hn.out];omega,by go_num,by rw [Hn.out],zcJ (zll aT.out ((Below.mono hA aF).trans (zah (base:=w4.heap.size) n (nT aF hA.size) (fun k hk=>by have:=(Q.out k hk).1;omega)))) 1 _,zao al.out 1 _,l.setOther (fun e=>by have:=(l.lt _ e).1;dsimp only at this;omega) _,by simp [aA],?_,?_⟩;rotate_left
    ·intro c a
     rcases List.mem_append.1 a with a|a
     ·exact am.out c a
     ·rw [List.mem_singleton.1 a]
      intro j hj;have h1:=a5 j hj;simp only [qdZ]at h1;omega
    intro j c x a hx
    by_cases hj:j<cs.length
    ·rw [List.getElem?_append_left hj]at a
     exact(an.out j c x a hx).keep aC
    ·rw [List.getElem?_append_right oM]at a
     have hl:=(lS.1 a).1;simp at hl;have a1:j-cs.length=0:=oM
     rw [a1]at a;have a2:j=i:=oM
     subst a2;rw [Hq.out]at hx
     cases hx
     simp at a;subst a;refine⟨Z a7 n7 c7,rfl,?_,a6⟩;have h1:IsPts (w7.alloc (I #[.string p.name,Z a7 n7 c7,O Y p.depth,O Y p.density,O Y p.gx,O Y p.gz,O Y p.way,O Y p.ax,O Y p.az,O C p.skin] 37)) (Z a7 n7 c7) p.shape:=aI.ext' ((eR _).alloc _)
     have h2:KeepT 33 (w7.alloc (I #[.string p.name,Z a7 n7 c7,O Y p.depth,O Y p.density,O Y p.gx,O Y p.gz,O Y p.way,O Y p.ax,O Y p.az,O C p.skin] 37)) w9:=fun x c f hx=>zaj n hx (fun e=>by
      have h8:=(P.out.ext hA).ne_blkD hx dM;exact h8 e.symm)
     exact(h1.keep' h2).keep' ((KeepT.refl _ w9).set (p:=⟨b3,1,X⟩) al.out dM _)
  ·obtain rfl:pn=i:=oM
   have D:=(y.block (w.heap.size+1) oM (by simp;omega)).trans aM.out;have r0:=qcB D (i:=0) (u:=Z X 0 0) rfl;have r1:=qcB D (i:=1) (u:=Z X 0 0) rfl;have rf:=qfB D;have aJ:OwnC 33 2 wr (w.heap.size+1+1) (Z a3 n3 c3) (g.map pc):=(aW.out.keep (zlm y aq.out dM)).mono (by simp only [wZ,qdZ];omega);have zr:=zaa D;have av:KeepT 33 wr ((wr.setCell ⟨w.heap.size+1,0,X⟩ (Z a3 n3 c3)).setCell ⟨w.heap.size+1,1,X⟩ (Z va vn vc)):=((KeepT.refl _ wr).set (p:=⟨w.heap.size+1,0,X⟩) D dM _).set (p:=⟨w.heap.size+1,1,X⟩) (zao D 0 _) dM _;have ay:Ext w ((wr.setCell ⟨w.heap.size+1,0,X⟩ (Z a3 n3 c3)).setCell ⟨w.heap.size+1,1,X⟩ (Z va vn vc)):=(ap.set dO _).set dO _;have l:=(((r.setOther (p:=⟨w.heap.size+1,0,X⟩) (fun e=>by have:=(r.lt _ e).1;dsimp only at this;omega) (Z a3 n3 c3)).setOther (p:=⟨w.heap.size+1,1,X⟩) (fun e=>by have:=(r.lt _ e).1;dsimp only at this;omega) (Z va vn vc))).mono (b':=w.heap.size) oM;have bq:=zao (zao D 0 (Z a3 n3 c3)) 1 (Z va vn vc);have ao:=hd9 l;have ar:=hd9 av;have aR:=hd9 ay;have aY:=hd9 aJ;have an:=hd9 aj;have am:=hd9 ai;clear l av ay aJ aj ai r y ah ab ap;go_wp2;refine bR (v:=F #[Z a3 n3 c3,Z va vn vc]) (by simp [results,Tryz.results14,go_sem,r0,r1,rf]) rfl ?_;rw [←HR.out];exact⟨_,_,b3,rfl,(aY.out.keep ar.out).mono oM,fun j hj=>(aX.out j hj).2,⟨cs,ao.out,by rw [aA,Hn.out],fun j c p a hx=>(an.out j c p a hx).keep ar.out,am.out⟩,aR.out⟩
theorem zob (w:V) (d f:J) (g:List (Int×Int)) (ps:List Pl) (l:IsPr w d g) (m:IsWr w f ps) (a:g.length≤1000) (b:ps.length≤1000) (c:∀p∈ps,p.shape.length≤1000) :
  Calls Tryz.prog 14 #[F #[d,f]] w fun e h=>∃vg' vp',e = .returned (F #[vg',vp'])∧IsPts h vg' g∧OwnPl h w.heap.size vp' ps∧Ext w h:=
 (zkL w d f g ps l m a b c).mono fun _ _ ⟨vg',vp',_,k,i,_,j,n⟩=>⟨vg',vp',k,i.pts,j.own,n⟩
end
section
open Go.RowKit Go.Shelf Go.Sort Go.Lib
attribute [local go_sem] Oper.semAt_some
theorem zif (w:V) (v s:J) (p q:Pl) (a:Int) (hv:IsPr w v p.shape) (c:IsPr w s q.shape) (K:0≤p.skin) (l:0≤q.skin) (i:Gw w) (ad:0≤a) (ae:a<256) (x:longB p=true∨longB q=true) :
  Calls Tryz.prog 6 #[F (plc p v),F (plc q s),O C a] w fun e w'=>e = .returned (N true)∧Ext w w':=by
 have t:=hd9 (fun(W:V) (b:Ext w W)=>zbP W p.name v p.shape p.depth p.density p.gx p.gz (hv.ext' b));have u:=hd9 (fun(W:V) (b:Ext w W)=>zbP W q.name s q.shape q.depth q.density q.gx q.gz (c.ext' b));have z:=hd9 (fun(m:longB p=false) (W:V) (b:Ext w W)=>zaR W p.name v p.shape p.depth p.density p.gx p.gz p.way p.ax p.az p.skin (hv.ext' b) (by unfold longB at m;simp at m;omega));have D:=hd9 (fun(m:longB q=false) (W:V) (b:Ext w W)=>zaR W q.name s q.shape q.depth q.density q.gx q.gz q.way q.ax q.az q.skin (c.ext' b) (by unfold longB at m;simp at m;omega));have HA:=hd9 (fun(W:V) (b:Ext w W)=>zc8 W (i.ext b));have HG:=hd9 i;have f:=hd9 (show longB p=(decide (20<p.shape.length) || decide (40<p.name.size))from rfl);have g:=hd9 (show longB q=(decide (20<q.shape.length) || decide (40<q.name.size))from rfl);obtain⟨sa,ah,rfl⟩:=hv.form;obtain⟨ta,ai,rfl⟩:=c.form;obtain⟨sn,j⟩:=gX p.shape.length;obtain⟨tn,k⟩:=gX q.shape.length;rw [j]at t z f;rw [k]at u D g;rw [j,k];obtain⟨r,n⟩:=gX ((decide (20<sn) || decide (40<p.name.size)));rw [n]at t f;obtain⟨P,o⟩:=gX ((decide (20<tn) || decide (40<q.name.size)));rw [o]at u g;have Hk:=hd9 K;have aa:=hd9 l;clear hv c i j k n o K l;unfold plc;have d:r=true∨P=true:=by rw [←f.out,←g.out];exact x
 clear z D
 have key:r=true∨(r=false∧P=true):=by
  rcases d with h|h
  ·exact .inl h
  ·cases r
   ·exact .inr ⟨rfl,h⟩
   ·exact .inl rfl
 clear d
 rcases key with rfl|⟨rfl,rfl⟩
 all_goals
  go_enter Tryz.func6,Tryz.ntmps6
  go_wp2_with(first|(go_at_call 9;(with_reducible refine(t.out _ ?_).mono ?_);exact eA;rintro e w1 ⟨rfl,y⟩;obtain⟨⟨ab,ac⟩,Q,T⟩:=cK2 w y)|(go_at_call 9;(with_reducible refine(u.out _ ?_).mono ?_);exact eA;rintro e w2 ⟨rfl,af⟩)|(go_at_call 10;(with_reducible refine(HA.out _ ?_).mono ?_);exact eA;rintro e w3 ⟨rfl,ag⟩))
  go_ret;exact⟨rfl,eA⟩
theorem zgG (w:V) (v v':J) (p q:Pl) (aW:Int) (hv:IsPr w v p.shape) (a8:IsPr w v' q.shape) (hk:0≤p.skin) (cg:0≤q.skin) (bo:Gw w) (c0:0≤aW) (c1:aW<256) (hl:longB p=false∧longB q=false) (h0:relE p q=0→relP p q=5) :
  Calls Tryz.prog 6 #[F (plc p v),F (plc q v'),O C aW] w fun e w'=>e = .returned (N true)∧Ext w w':=by
 have HL:=hd9 (fun(W:V) (f:Ext w W)=>zbP W p.name v p.shape p.depth p.density p.gx p.gz (hv.ext' f));have HM:=hd9 (fun(W:V) (f:Ext w W)=>zbP W q.name v' q.shape q.depth q.density q.gx q.gz (a8.ext' f));have HP:=hd9 (fun(hl:longB p=false) (W:V) (f:Ext w W)=>zaR W p.name v p.shape p.depth p.density p.gx p.gz p.way p.ax p.az p.skin (hv.ext' f) (by unfold longB at hl;simp at hl;omega));have HQ:=hd9 (fun(hl:longB q=false) (W:V) (f:Ext w W)=>zaR W q.name v' q.shape q.depth q.density q.gx q.gz q.way q.ax q.az q.skin (a8.ext' f) (by unfold longB at hl;simp at hl;omega));have HA:=hd9 (fun(W:V) (f:Ext w W)=>zc8 W (bo.ext f));have HG:=hd9 bo;have aP:=hd9 (show longB p=(decide (20<p.shape.length) || decide (40<p.name.size))from rfl);have aQ:=hd9 (show longB q=(decide (20<q.shape.length) || decide (40<q.name.size))from rfl);obtain⟨sa,cY,rfl⟩:=hv.form;obtain⟨ta,cZ,rfl⟩:=a8.form;obtain⟨sn,bp⟩:=gX p.shape.length;obtain⟨tn,bq⟩:=gX q.shape.length;rw [bp]at HL HP aP;rw [bq]at HM HQ aQ;rw [bp,bq];obtain⟨lp,ch⟩:=gX ((decide (20<sn) || decide (40<p.name.size)));rw [ch]at HL aP;obtain⟨lq,ci⟩:=gX ((decide (20<tn) || decide (40<q.name.size)));rw [ci]at HM aQ;have Hk:=hd9 hk;have bf:=hd9 cg;clear hv a8 bo bp bq ch ci hk cg;unfold plc;obtain⟨rfl,rfl⟩:lp=false∧lq=false:=⟨by rw [←aP.out];exact hl.1,by rw [←aQ.out];exact hl.2⟩;have bZ:=hd9 (HP.out aP.out);have b0:=hd9 (HQ.out aQ.out);clear aP aQ HP HQ hl;go_enter Tryz.func6,Tryz.ntmps6
 go_upto_region 3 with (first|(go_at_call 9;(with_reducible refine(HL.out _ ?_).mono ?_);exact eA;rintro e w1 ⟨rfl,cw⟩;obtain⟨⟨cP,cR⟩,cG,cH⟩:=cK2 w cw)|(go_at_call 9;(with_reducible refine(HM.out _ ?_).mono ?_);exact eA;rintro e w2 ⟨rfl,cx⟩;obtain⟨⟨cQ,cS⟩,cI,cJ⟩:=cK2 w cx))
 have X2:Ext w w2:=eA
 have C2:CellL [(⟨w.heap.size,0,X⟩,.string p.name),(⟨w.heap.size,1,X⟩,Z sa sn cY),(⟨w.heap.size,2,X⟩,O Y p.depth),(⟨w.heap.size,3,X⟩,O Y p.density),(⟨w.heap.size,4,X⟩,O Y p.gx),(⟨w.heap.size,5,X⟩,O Y p.gz),(⟨w.heap.size,6,X⟩,O Y p.way),(⟨w.heap.size,7,X⟩,O Y p.ax),(⟨w.heap.size,8,X⟩,O Y p.az),(⟨w.heap.size,9,X⟩,O C p.skin),(⟨w.heap.size+1,0,X⟩,.string q.name),(⟨w.heap.size+1,1,X⟩,Z ta tn cZ),(⟨w.heap.size+1,2,X⟩,O Y q.depth),(⟨w.heap.size+1,3,X⟩,O Y q.density),(⟨w.heap.size+1,4,X⟩,O Y q.gx),(⟨w.heap.size+1,5,X⟩,O Y q.gz),(⟨w.heap.size+1,6,X⟩,O Y q.way),(⟨w.heap.size+1,7,X⟩,O Y q.ax),(⟨w.heap.size+1,8,X⟩,O Y q.az),(⟨w.heap.size+1,9,X⟩,O C q.skin)] w2.drew:=by
  refine⟨?_,?_,?_,?_,?_,?_,?_,?_,?_,?_,?_,?_,?_,?_,?_,?_,?_,?_,?_,?_,trivial⟩<;>go_simp
 clear cw cx cP cR cQ cS cG cH cI cJ HL HM;refine zbb [(4,7,I zpl 37 (0,0)),(5,8,I zpl 37 (0,0))] _ 6 3 (fun i=>decide (5<i)) (fun _=>false) kM kM kM sM kM (by intro x hx;simp only [List.mem_cons,List.not_mem_nil,or_false]at hx;rcases hx with rfl|rfl<;>exact⟨_,rfl,rfl,fun a W=>by go_simp⟩) (fun _ _ d _ _ h=>by cases d<;>exact h) C2 (fun cb=>?_);refine tf1 (i:=0) ?_;refine tf1 (i:=2) ?_;refine cf1 (i:=1) fun W4 aT ce bl K hK=>?_
 go_simp
 (with_reducible refine cM (bZ.out _ (X2.drew.trans aT)) ?_)
 rintro e w4 ⟨v4,rfl,bs,bu,cO⟩;obtain⟨au,aA,aw,rfl⟩:=form3 bs
 go_wp2_with fail
 refine kO hK (.of ce bu) (fun _ _=>?_);clear hK K bl;have X4:Ext w w4:=(X2.drew.trans aT).trans bu;refine cf1 (i:=3) fun W3 aS cd bl K hK=>?_
 go_simp
 (with_reducible refine cM (b0.out _ (X4.trans aS)) ?_)
 rintro e w3 ⟨v3,rfl,br,bt,cN⟩;obtain⟨ar,ay,av,rfl⟩:=form3 br
 go_wp2_with fail
 refine kO hK (.of cd bt) (fun _ _=>?_);clear hK K bl;refine df kM (fun W5 aU cc=>?_);intro b5 q5 y5 _ _ b6 q6 y6 bw _;have bw:b6≠b5:=by simpa using bw
 have bk:Ext w4 W5:=(aS.trans bt).trans aU;have X5:Ext w W5:=X4.trans bk;have cq:=bs.ext' bk;have co:=br.ext' aU;have xf:=qfB q5;have yf:=qfB q6;have x0:=qcB q5 (i:=0) (u:=.string ⟨#[]⟩) rfl;have x1:=qcB q5 (i:=1) (u:=Z X 0 0) rfl;have x2:=qcB q5 (i:=2) (u:=O Y 0) rfl;have x3:=qcB q5 (i:=3) (u:=O Y 0) rfl;have x4:=qcB q5 (i:=4) (u:=O Y 0) rfl;have x5:=qcB q5 (i:=5) (u:=O Y 0) rfl;have x6:=qcB q5 (i:=6) (u:=O Y 0) rfl;have x7:=qcB q5 (i:=7) (u:=O Y 0) rfl;have x8:=qcB q5 (i:=8) (u:=O Y 0) rfl;have x9:=qcB q5 (i:=9) (u:=O C 0) rfl;have u0:=qcB q6 (i:=0) (u:=.string ⟨#[]⟩) rfl;have u1:=qcB q6 (i:=1) (u:=Z X 0 0) rfl;have u2:=qcB q6 (i:=2) (u:=O Y 0) rfl;have u3:=qcB q6 (i:=3) (u:=O Y 0) rfl;have u4:=qcB q6 (i:=4) (u:=O Y 0) rfl;have u5:=qcB q6 (i:=5) (u:=O Y 0) rfl;have u6:=qcB q6 (i:=6) (u:=O Y 0) rfl;have u7:=qcB q6 (i:=7) (u:=O Y 0) rfl;have u8:=qcB q6 (i:=8) (u:=O Y 0) rfl;have u9:=qcB q6 (i:=9) (u:=O C 0) rfl;clear aT bu aS bt aU bk br cN bs cO C2;refine cl1 (i:=6) fun K hK=>?_
 go_simp;refine kO hK (cE cb (by(repeat refine Ext.set ?_ (by first|exact y5|exact y6) _);exact cc)) (fun cL=>?_);clear hK K;refine cl1 (i:=7) fun K hK=>?_
 go_simp;refine kO hK (cE cb (by(repeat refine Ext.set ?_ (by first|exact y5|exact y6) _);exact cc)) (fun cL=>?_);clear hK K;refine wpAnyH_done kM ?_ _;clear x0 x1 x2 x3 x4 x5 x6 x7 x8 x9 u0 u1 u2 u3 u4 u5 u6 u7 u8 u9 xf yf;obtain⟨W6,bm⟩:=gX (stL (stL W5 b5 0 [.string p.name,Z au aA aw,O Y p.depth,O Y p.density,O Y p.gx,O Y p.gz,O Y p.way,O Y p.ax,O Y p.az,O C p.skin]) b6 0 [.string q.name,Z ar ay av,O Y q.depth,O Y q.density,O Y q.gx,O Y q.gz,O Y q.way,O Y q.ax,O Y q.az,O C q.skin]);have e6:(((((((((((((((((((W5.setCell ⟨b5,0,X⟩ (.string p.name)).setCell ⟨b5,1,X⟩ (Z au aA aw)).setCell ⟨b5,2,X⟩ (O Y p.depth)).setCell ⟨b5,3,X⟩ (O Y p.density)).setCell ⟨b5,4,X⟩ (O Y p.gx)).setCell ⟨b5,5,X⟩ (O Y p.gz)).setCell ⟨b5,6,X⟩ (O Y p.way)).setCell ⟨b5,7,X⟩ (O Y p.ax)).setCell ⟨b5,8,X⟩ (O Y p.az)).setCell ⟨b5,9,X⟩ (O C p.skin)).setCell ⟨b6,0,X⟩ (.string q.name)).setCell ⟨b6,1,X⟩ (Z ar ay av)).setCell ⟨b6,2,X⟩ (O Y q.depth)).setCell ⟨b6,3,X⟩ (O Y q.density)).setCell ⟨b6,4,X⟩ (O Y q.gx)).setCell ⟨b6,5,X⟩ (O Y q.gz)).setCell ⟨b6,6,X⟩ (O Y q.way)).setCell ⟨b6,7,X⟩ (O Y q.ax)).setCell ⟨b6,8,X⟩ (O Y q.az)).setCell ⟨b6,9,X⟩ (O C q.skin)=W6:=bm;rw [e6];have TB:=zeB (cs:=zplL) (ds:=zplL) [.string p.name,Z au aA aw,O Y p.depth,O Y p.density,O Y p.gx,O Y p.gz,O Y p.way,O Y p.ax,O Y p.az,O C p.skin] [.string q.name,Z ar ay av,O Y q.depth,O Y q.density,O Y q.gx,O Y q.gz,O Y q.way,O Y q.ax,O Y q.az,O C q.skin] q5 q6 bw rfl rfl;rw [bm]at TB;obtain⟨K5,K6,tb,tk,te⟩:=TB
 replace y5:=nT X2.size y5
 replace y6:=nT X2.size y6
 have X6:=te w X5 y5 y6;have bv:=tk 33 dM dM;have cr:=cq.keep' bv;have cp:=co.keep' bv;have z5:=zaa K5;have z6:=zaa K6;clear bm e6 tb tk te bv cq co X5 X4 q5 q6 bZ b0 X2;have b:=hd9 K5;have c:=hd9 K6;have aB:=hd9 X6;have bi:=hd9 cr;have bh:=hd9 cp;have Kz:=hd9 (And.intro y5 y6);clear K5 K6 X6 cr cp y5 y6
 (have n:=qcB b.out (i:=0) (u:=.string p.name) rfl);(have o:=qcB b.out (i:=1) (u:=Z au aA aw) rfl);(have r:=qcB b.out (i:=2) (u:=O Y p.depth) rfl);(have s:=qcB b.out (i:=3) (u:=O Y p.density) rfl);(have t:=qcB b.out (i:=4) (u:=O Y p.gx) rfl);(have y:=qcB b.out (i:=5) (u:=O Y p.gz) rfl);(have D:=qcB b.out (i:=6) (u:=O Y p.way) rfl);(have P:=qcB b.out (i:=7) (u:=O Y (p.ax)) rfl);(have Q:=qcB b.out (i:=8) (u:=O Y (p.az)) rfl);(have T:=qcB b.out (i:=9) (u:=O C p.skin) rfl);(have aa:=qfB b.out);(have ab:=qcB c.out (i:=0) (u:=.string q.name) rfl);(have ac:=qcB c.out (i:=1) (u:=Z ar ay av) rfl);(have ad:=qcB c.out (i:=2) (u:=O Y q.depth) rfl);(have ae:=qcB c.out (i:=3) (u:=O Y q.density) rfl);(have af:=qcB c.out (i:=4) (u:=O Y q.gx) rfl);(have ag:=qcB c.out (i:=5) (u:=O Y q.gz) rfl);(have ah:=qcB c.out (i:=6) (u:=O Y q.way) rfl);(have ai:=qcB c.out (i:=7) (u:=O Y (q.ax)) rfl);(have aj:=qcB c.out (i:=8) (u:=O Y (q.az)) rfl);(have ak:=qcB c.out (i:=9) (u:=O C q.skin) rfl);(have al:=qfB c.out)
 have aL:=hd9 (fun(W:V) (f:Ext W6 W)=>zc3 W _ _ p q (bi.out.ext' f) (bh.out.ext' f) Hk.out bf.out (HG.out.ext (aB.out.trans f)));unfold plc RetRl at aL;obtain⟨er,bn⟩:=gX (relE p q);obtain⟨k,hk⟩:=gX (relK p q);rw [bn,hk]at aL;have HE:=hd9 (And.intro bn hk);clear bn hk
 by_cases hr:er=0
 ·subst hr
  obtain⟨o1,o2⟩:=zkn HE.out.1;have a7:relP p q=k:=by rw [←HE.out.2];exact(if_pos ⟨o1,o2⟩).symm
  have HB:=hd9 (And.intro o1 (And.intro o2 a7));have rb:=zmk p q;rw [a7]at rb;obtain⟨c2,c5⟩:=rb;have h5:k=5:=by rw [←a7];exact h0 HE.out.1
  clear HE o1 o2 a7 h0;subst h5;have HI:=hd9 (fun(W:V) (f:Ext W6 W)=>zls W _ _ p q (bi.out.ext' f) (bh.out.ext' f) Hk.out bf.out (HG.out.ext (aB.out.trans f)) ⟨HB.out.1,HB.out.2.1⟩ HB.out.2.2);unfold plc RetI5 at HI
  go_upto_region 9 with (first|(go_at_call 12;(with_reducible refine(aL.out _ ?_).mono ?_);exact eA;rintro e w7 ⟨rfl,aG⟩;(replace b:=hd9 (aG.heapS b.out));(replace c:=hd9 (aG.heapS c.out));clear n o r s t y D P Q T aa ab ac ad ae af ag ah ai aj ak al;(have n:=qcB b.out (i:=0) (u:=.string p.name) rfl);(have o:=qcB b.out (i:=1) (u:=Z au aA aw) rfl);(have r:=qcB b.out (i:=2) (u:=O Y p.depth) rfl);(have s:=qcB b.out (i:=3) (u:=O Y p.density) rfl);(have t:=qcB b.out (i:=4) (u:=O Y p.gx) rfl);(have y:=qcB b.out (i:=5) (u:=O Y p.gz) rfl);(have D:=qcB b.out (i:=6) (u:=O Y p.way) rfl);(have P:=qcB b.out (i:=7) (u:=O Y (p.ax)) rfl);(have Q:=qcB b.out (i:=8) (u:=O Y (p.az)) rfl);(have T:=qcB b.out (i:=9) (u:=O C p.skin) rfl);(have aa:=qfB b.out);(have ab:=qcB c.out (i:=0) (u:=.string q.name) rfl);(have ac:=qcB c.out (i:=1) (u:=Z ar ay av) rfl);(have ad:=qcB c.out (i:=2) (u:=O Y q.depth) rfl);(have ae:=qcB c.out (i:=3) (u:=O Y q.density) rfl);(have af:=qcB c.out (i:=4) (u:=O Y q.gx) rfl);(have ag:=qcB c.out (i:=5) (u:=O Y q.gz) rfl);(have ah:=qcB c.out (i:=6) (u:=O Y q.way) rfl);(have ai:=qcB c.out (i:=7) (u:=O Y (q.ax)) rfl);(have aj:=qcB c.out (i:=8) (u:=O Y (q.az)) rfl);(have ak:=qcB c.out (i:=9) (u:=O C q.skin) rfl);(have al:=qfB c.out))|(go_at_call 23;(with_reducible refine(HI.out _ ?_).mono ?_);exact eA;rintro e w8 ⟨v8,x,z,l,rfl,cW,hl,hx,hz,cn,a9⟩;(replace b:=hd9 (a9.heapS b.out));(replace c:=hd9 (a9.heapS c.out));clear n o r s t y D P Q T aa ab ac ad ae af ag ah ai aj ak al;(have n:=qcB b.out (i:=0) (u:=.string p.name) rfl);(have o:=qcB b.out (i:=1) (u:=Z au aA aw) rfl);(have r:=qcB b.out (i:=2) (u:=O Y p.depth) rfl);(have s:=qcB b.out (i:=3) (u:=O Y p.density) rfl);(have t:=qcB b.out (i:=4) (u:=O Y p.gx) rfl);(have y:=qcB b.out (i:=5) (u:=O Y p.gz) rfl);(have D:=qcB b.out (i:=6) (u:=O Y p.way) rfl);(have P:=qcB b.out (i:=7) (u:=O Y (p.ax)) rfl);(have Q:=qcB b.out (i:=8) (u:=O Y (p.az)) rfl);(have T:=qcB b.out (i:=9) (u:=O C p.skin) rfl);(have aa:=qfB b.out);(have ab:=qcB c.out (i:=0) (u:=.string q.name) rfl);(have ac:=qcB c.out (i:=1) (u:=Z ar ay av) rfl);(have ad:=qcB c.out (i:=2) (u:=O Y q.depth) rfl);(have ae:=qcB c.out (i:=3) (u:=O Y q.density) rfl);(have af:=qcB c.out (i:=4) (u:=O Y q.gx) rfl);(have ag:=qcB c.out (i:=5) (u:=O Y q.gz) rfl);(have ah:=qcB c.out (i:=6) (u:=O Y q.way) rfl);(have ai:=qcB c.out (i:=7) (u:=O Y (q.ax)) rfl);(have aj:=qcB c.out (i:=8) (u:=O Y (q.az)) rfl);(have ak:=qcB c.out (i:=9) (u:=O C q.skin) rfl);(have al:=qfB c.out);obtain⟨a3,m3,c3,s3,a4,m4,c4,b3,n3,k3,t3,b4,n4,k4,rfl,ct,cu⟩:=cW))
  obtain⟨x0,x1,cU,cf⟩:=zmZ HB.out.1 HB.out.2.1 HB.out.2.2 hl hx;obtain⟨m1,m2,cD,cF⟩:=zm0 cf hz;have cV:(insS p q).lo=max (lineL (lowP2 p)) (lineL (lowP2 q)):=rfl;have cT:(insS p q).hi=min (lineR (lowP2 p)) (lineR (lowP2 q)):=rfl;have e1:((lineL (lowP2 p):Int):Rat)≤x:=Rat.le_trans (Rat.intCast_le_intCast.2 oM) x0;have e2:((lineL (lowP2 q):Int):Rat)≤x:=Rat.le_trans (Rat.intCast_le_intCast.2 oM) x0;have e3:x≤((lineR (lowP2 p):Int):Rat):=Rat.le_trans x1 (Rat.intCast_le_intCast.2 oM);have e4:x≤((lineR (lowP2 q):Int):Rat):=Rat.le_trans x1 (Rat.intCast_le_intCast.2 oM);have aX:=hd9 (And.intro (And.intro e1 e3) (And.intro e2 e4));have aY:=hd9 (And.intro (And.intro m1 m2) (And.intro cD cF));have bg:=hd9 cn;have Hz:=hd9 hz;have b9:=aG.trans a9;clear x0 x1 cU cf m1 m2 cD cF cV cT e1 e2 e3 e4 hl hx hz cn aL HI;obtain⟨a5,aV⟩:=gX w8.heap.size;obtain⟨W9,a6⟩:=gX (w8.alloc (I #[Z a3 m3 c3,N s3,Z a4 m4 c4,Z b3 n3 k3,N t3,Z b4 n4 k4] 67));rw [a6,aV];have aJ:Ext w8 W9:=by rw [←a6];exact(eR _).alloc _
  have j:W9.heap[a5]?=M (I #[Z a3 m3 c3,N s3,Z a4 m4 c4,Z b3 n3 k3,N t3,Z b4 n4 k4] 67 (0,0)):=by rw [←a6,←aV];exact aN w8 _
  replace b:=hd9 (aJ.heapS b.out)
  replace c:=hd9 (aJ.heapS c.out)
  have aM:=hd9 (b9.trans aJ);have b8:=hd9 (ct.ext aJ);have cK:=hd9 (cu.ext aJ);have b1:=hd9 (fun(W:V) (f:Ext W9 W)=>zcT W _ _ p x (bi.out.ext' (aM.out.trans f)) (b8.out.ext f) (bg.out.up dM) Hk.out (HG.out.ext (aB.out.trans (aM.out.trans f))) HB.out.1 aX.out.1.1 aX.out.1.2);have b2:=hd9 (fun(W:V) (f:Ext W9 W)=>zcT W _ _ q x (bh.out.ext' (aM.out.trans f)) (b8.out.ext f) (bg.out.up dM) bf.out (HG.out.ext (aB.out.trans (aM.out.trans f))) HB.out.2.1 aX.out.2.1 aX.out.2.2);unfold plc RetSd at b1 b2;clear a6 aV aJ b9 aG a9 ct cu;clear n o r s t y D P Q T aa ab ac ad ae af ag ah ai aj ak al
  (have n:=qcB b.out (i:=0) (u:=.string p.name) rfl);(have o:=qcB b.out (i:=1) (u:=Z au aA aw) rfl);(have r:=qcB b.out (i:=2) (u:=O Y p.depth) rfl);(have s:=qcB b.out (i:=3) (u:=O Y p.density) rfl);(have t:=qcB b.out (i:=4) (u:=O Y p.gx) rfl);(have y:=qcB b.out (i:=5) (u:=O Y p.gz) rfl);(have D:=qcB b.out (i:=6) (u:=O Y p.way) rfl);(have P:=qcB b.out (i:=7) (u:=O Y (p.ax)) rfl);(have Q:=qcB b.out (i:=8) (u:=O Y (p.az)) rfl);(have T:=qcB b.out (i:=9) (u:=O C p.skin) rfl);(have aa:=qfB b.out);(have ab:=qcB c.out (i:=0) (u:=.string q.name) rfl);(have ac:=qcB c.out (i:=1) (u:=Z ar ay av) rfl);(have ad:=qcB c.out (i:=2) (u:=O Y q.depth) rfl);(have ae:=qcB c.out (i:=3) (u:=O Y q.density) rfl);(have af:=qcB c.out (i:=4) (u:=O Y q.gx) rfl);(have ag:=qcB c.out (i:=5) (u:=O Y q.gz) rfl);(have ah:=qcB c.out (i:=6) (u:=O Y q.way) rfl);(have ai:=qcB c.out (i:=7) (u:=O Y (q.ax)) rfl);(have aj:=qcB c.out (i:=8) (u:=O Y (q.az)) rfl);(have ak:=qcB c.out (i:=9) (u:=O C q.skin) rfl);(have al:=qfB c.out)
  have v0:=qcB j (i:=0) (u:=Z a3 m3 c3) rfl;have v1:=qcB j (i:=1) (u:=N s3) rfl;have v2:=qcB j (i:=2) (u:=Z a4 m4 c4) rfl;have m:=hd9 j;clear j
  go_upto_region 10 with (go_at_call 18;(with_reducible refine(b1.out _ (eR _)).mono ?_);rintro e ba ⟨r1,r2,rfl,aE,aF,bd⟩;obtain⟨ra,rm,rc,rs,bx,bA,bz,rfl⟩:=aE.form;obtain⟨ua,um,uc,us,bB,bD,bC,rfl⟩:=aF.form)
  obtain⟨an,aH⟩:=gX ba.heap.size;obtain⟨bj,ap⟩:=gX ((ba.alloc (I #[Z ra rm rc,N rs,Z bx bA bz] 65)).alloc (I #[Z ua um uc,N us,Z bB bD bC] 65));rw [ap,aH];have a1:Ext ba bj:=by rw [←ap];exact((eR _).alloc _).alloc _
  have aC:bj.heap[an]?=M (I #[Z ra rm rc,N rs,Z bx bA bz] 65 (0,0)):=by rw [←ap,←aH];exact((eR _).alloc _).heapS (aN ba _)
  have aD:bj.heap[an+1]?=M (I #[Z ua um uc,N us,Z bB bD bC] 65 (0,0)):=by rw [←ap];exact qhA _ _ _ (by simp [aH])
  have aR:=bd.trans a1
  replace b:=hd9 (aR.heapS b.out)
  replace c:=hd9 (aR.heapS c.out)
  replace m:=hd9 (aR.heapS m.out)
  have aO:=hd9 aR;have b7:=hd9 (And.intro (aE.ext a1) (aF.ext a1));have bc:=hd9 (And.intro aC aD);clear n o r s t y D P Q T aa ab ac ad ae af ag ah ai aj ak al;clear ap aH a1 aR bd aE aF aC aD v0 v1 v2
  (have n:=qcB b.out (i:=0) (u:=.string p.name) rfl);(have o:=qcB b.out (i:=1) (u:=Z au aA aw) rfl);(have r:=qcB b.out (i:=2) (u:=O Y p.depth) rfl);(have s:=qcB b.out (i:=3) (u:=O Y p.density) rfl);(have t:=qcB b.out (i:=4) (u:=O Y p.gx) rfl);(have y:=qcB b.out (i:=5) (u:=O Y p.gz) rfl);(have D:=qcB b.out (i:=6) (u:=O Y p.way) rfl);(have P:=qcB b.out (i:=7) (u:=O Y (p.ax)) rfl);(have Q:=qcB b.out (i:=8) (u:=O Y (p.az)) rfl);(have T:=qcB b.out (i:=9) (u:=O C p.skin) rfl);(have aa:=qfB b.out);(have ab:=qcB c.out (i:=0) (u:=.string q.name) rfl);(have ac:=qcB c.out (i:=1) (u:=Z ar ay av) rfl);(have ad:=qcB c.out (i:=2) (u:=O Y q.depth) rfl);(have ae:=qcB c.out (i:=3) (u:=O Y q.density) rfl);(have af:=qcB c.out (i:=4) (u:=O Y q.gx) rfl);(have ag:=qcB c.out (i:=5) (u:=O Y q.gz) rfl);(have ah:=qcB c.out (i:=6) (u:=O Y q.way) rfl);(have ai:=qcB c.out (i:=7) (u:=O Y (q.ax)) rfl);(have aj:=qcB c.out (i:=8) (u:=O Y (q.az)) rfl);(have ak:=qcB c.out (i:=9) (u:=O C q.skin) rfl);(have al:=qfB c.out)
  have v0:=qcB m.out (i:=0) (u:=Z a3 m3 c3) rfl;have v1:=qcB m.out (i:=1) (u:=N s3) rfl;have v2:=qcB m.out (i:=2) (u:=Z a4 m4 c4) rfl
  go_upto_region 11 with (go_at_call 18;(with_reducible refine(b2.out _ aO.out).mono ?_);rintro e bb ⟨r1,r2,rfl,aE,aF,be⟩;obtain⟨ya,ym,yc,ys,bM,bO,bN,rfl⟩:=aE.form;obtain⟨za,zm,zc,zs,bP,bT,bQ,rfl⟩:=aF.form)
  obtain⟨ao,aI⟩:=gX bb.heap.size;obtain⟨am,aq⟩:=gX ((bb.alloc (I #[Z ya ym yc,N ys,Z bM bO bN] 65)).alloc (I #[Z za zm zc,N zs,Z bP bT bQ] 65));rw [aq,aI];have a2:Ext bb am:=by rw [←aq];exact((eR _).alloc _).alloc _
  have aZ:am.heap[ao]?=M (I #[Z ya ym yc,N ys,Z bM bO bN] 65 (0,0)):=by rw [←aq,←aI];exact((eR _).alloc _).heapS (aN bb _)
  have a0:am.heap[ao+1]?=M (I #[Z za zm zc,N zs,Z bP bT bQ] 65 (0,0)):=by rw [←aq];exact qhA _ _ _ (by simp [aI])
  have g:=be.trans a2;have j:=g.heapS m.out;have aC:=g.heapS bc.out.1;have aD:=g.heapS bc.out.2
  have bU:CellL [(⟨a5,3,X⟩,Z b3 n3 k3),(⟨a5,4,X⟩,N t3),(⟨a5,5,X⟩,Z b4 n4 k4),(⟨an,0,X⟩,Z ra rm rc),(⟨an,1,X⟩,N rs),(⟨an,2,X⟩,Z bx bA bz),(⟨an+1,0,X⟩,Z ua um uc),(⟨an+1,1,X⟩,N us),(⟨an+1,2,X⟩,Z bB bD bC),(⟨ao,0,X⟩,Z ya ym yc),(⟨ao,1,X⟩,N ys),(⟨ao,2,X⟩,Z bM bO bN),(⟨ao+1,0,X⟩,Z za zm zc),(⟨ao+1,1,X⟩,N zs),(⟨ao+1,2,X⟩,Z bP bT bQ)] am:=
   ⟨qcB j (i:=3) rfl,qcB j (i:=4) rfl,qcB j (i:=5) rfl,qcB aC (i:=0) rfl,qcB aC (i:=1) rfl,qcB aC (i:=2) rfl,qcB aD (i:=0) rfl,qcB aD (i:=1) rfl,qcB aD (i:=2) rfl,qcB aZ (i:=0) rfl,qcB aZ (i:=1) rfl,qcB aZ (i:=2) rfl,qcB a0 (i:=0) rfl,qcB a0 (i:=1) rfl,qcB a0 (i:=2) rfl,trivial⟩
  have aK:=hd9 bU;obtain⟨v3,v4,v5,v6,v7,v8,v9,bE,bF,bG,bH,bI,bJ,bK,bL,-⟩:=bU;have cv:=aM.out.trans (aO.out.trans g);have HX:=hd9 (aB.out.trans cv);have ca:=aO.out.trans g;have rx:Rb 300 x:=bg.out;have f1:Rb 1207 (atR (lowP2 p) x):=(Rb.atG (k:=300) dM rx (zae HB.out.1).1).up dM;have f2:Rb 1207 (atR (upP2 p) x):=(Rb.atG (k:=300) dM rx (zae HB.out.1).2).up dM;have f3:Rb 1207 (atR (lowP2 q) x):=(Rb.atG (k:=300) dM rx (zae HB.out.2.1).1).up dM;have f4:Rb 1207 (atR (upP2 q) x):=(Rb.atG (k:=300) dM rx (zae HB.out.2.1).2).up dM
  have fz:Rb 3000 z:=by
   have e2:(2:Rat)=((2:Int):Rat):=rfl;rw [Hz.out,e2];exact(Rb.div (Rb.add (zez HB.out.1 HB.out.2.1 rx) (zdH HB.out.1 HB.out.2.1 rx)) (zau (k:=1000) (by unfold Bd;omega)) dM).up dM
  have cB:=aE.ext a2;have cC:=aF.ext a2;have cy:=b7.out.1.ext g;have cz:=b7.out.2.ext g;have iz:=cK.out.ext ca;have bV:=hd9 (fun(W:V) (f:Ext am W)=>zan W _ _ _ _ (cy.ext f) (iz.ext f) (zaf f1 dM) (zaf fz dM));have bW:=hd9 (fun(W:V) (f:Ext am W)=>zan W _ _ _ _ (iz.ext f) (cz.ext f) (zaf fz dM) (zaf f2 dM));have bX:=hd9 (fun(W:V) (f:Ext am W)=>zan W _ _ _ _ (cB.ext f) (iz.ext f) (zaf f3 dM) (zaf fz dM));have bY:=hd9 (fun(W:V) (f:Ext am W)=>zan W _ _ _ _ (iz.ext f) (cC.ext f) (zaf fz dM) (zaf f4 dM));have d1:=(za0 _ _).2 aY.out.1.1;have d2:=(za0 _ _).2 aY.out.1.2;have d3:=(za0 _ _).2 aY.out.2.1;have d4:=(za0 _ _).2 aY.out.2.2;obtain⟨q1,cj⟩:=gX (rcmp (atR (lowP2 p) x) z);obtain⟨q2,ck⟩:=gX (rcmp z (atR (upP2 p) x));obtain⟨q3,cl⟩:=gX (rcmp (atR (lowP2 q) x) z);obtain⟨q4,cm⟩:=gX (rcmp z (atR (upP2 q) x));rw [cj]at bV d1;rw [ck]at bW d2;rw [cl]at bX d3;rw [cm]at bY d4;clear n o r s t y D P Q T aa ab ac ad ae af ag ah ai aj ak al;clear v0 v1 v2 aq aI a2 cv g j aC aD aZ a0 ca rx f1 f2 f3 f4 fz cB cC cy cz iz cj ck cl cm be aE aF
  go_wp2_with(first
   | (go_at_call 19;(with_reducible refine(bV.out _ (eR _)).mono ?_);rintro e y1 ⟨rfl,j1⟩;(have G:=cE aK.out j1);obtain⟨v3,v4,v5,v6,v7,v8,v9,bE,bF,bG,bH,bI,bJ,bK,bL,-⟩:=G)
   | (go_at_call 19;(with_reducible refine(bW.out _ j1).mono ?_);rintro e y2 ⟨rfl,j2⟩;(have J2:=j1.trans j2);(have G:=cE aK.out J2);obtain⟨v3,v4,v5,v6,v7,v8,v9,bE,bF,bG,bH,bI,bJ,bK,bL,-⟩:=G)
   | (go_at_call 19;(with_reducible refine(bX.out _ J2).mono ?_);rintro e y3 ⟨rfl,j3⟩;(have J3:=J2.trans j3);(have G:=cE aK.out J3);obtain⟨v3,v4,v5,v6,v7,v8,v9,bE,bF,bG,bH,bI,bJ,bK,bL,-⟩:=G)
   | (go_at_call 19;(with_reducible refine(bY.out _ J3).mono ?_);rintro e y4 ⟨rfl,j4⟩;(have J4:=J3.trans j4))
   | (go_at_call 10;(with_reducible refine(HA.out _ (HX.out.trans J4)).mono ?_);rintro e y5 ⟨rfl,j5⟩))
  go_ret;exact⟨rfl,HX.out.trans (J4.trans j5)⟩
 ·clear HG
  go_wp2_with(first|(go_at_call 12;(with_reducible refine(aL.out _ ?_).mono ?_);exact eA;rintro e w7 ⟨rfl,aG⟩)|(go_at_call 10;(with_reducible refine(HA.out _ (aB.out.trans aG)).mono ?_);rintro e w9 ⟨rfl,cX⟩))
  go_ret;exact⟨rfl,aB.out.trans (aG.trans cX)⟩
end
end Go.Proofs.YtodpfeaihohpjaaGreatDoor.Cop
