/- Part 16: contracts of what the law calls. -/
import Derived.Test.YtodpfeaihohpjaaGreatDoorCopA14
import Derived.Test.YtodpfeaihohpjaaGreatDoorCopA13
set_option maxRecDepth 1000000
set_option maxHeartbeats 16000000
set_option linter.unusedSimpArgs false
set_option linter.unusedVariables false
open Go.Value renaming slice→O,int→I,agg→N,pointer→F,bool→A,tuple→L
open Go renaming World→Y,Value→Z,Act→C
open Option renaming none→X,some→V
open Go.IntKind renaming i64→J
open Go.Obj renaming cells→M
namespace Go.Proofs.YtodpfeaihohpjaaGreatDoor.Cop
section
open Go.RowKit Go.Shelf Go.Sort Go.Lib
def leastR (s:Sp):Rat×Rat:=bestR (gapR s) (stopsR s)
theorem zaw (s:Sp):stopsR s≠[]:=by
 unfold stopsR;intro h;have a:stopsZ s=[]:=List.map_eq_nil_iff.1 h;unfold stopsZ at a;have b:=zh4 (zs:=isort (s.lo::s.hi::midP s (s.over++s.under))) (by intro c;have:=congrArg List.length c;rw [zbE]at this;simp at this);exact b a
theorem zcn (w:Y) (t u:Z) (s:Sp) (p:IsPts w t s.over) (r:IsPts w u s.under) (d:SpOk s) :
  Calls Tryz.prog 54 #[spc s t u] w (RetR2 w (leastR s).1 (leastR s).2):=by
 have y:=hd9 (fun(W:Y) (m:Ext w W)=>zex W t u s (p.ext' m) (r.ext' m) d);have x:=hd9 (fun(W:Y) (m:Ext w W) (v:Z) (hv:IsRs W v (stopsR s))=>zk3 W v t u s (stopsR s) hv (p.ext' m) (r.ext' m) d (zas d));obtain⟨a1,m1,rfl⟩:=p.form;obtain⟨a2,m2,rfl⟩:=r.form;obtain⟨n1,f1⟩:=gX s.over.length;obtain⟨n2,f2⟩:=gX s.under.length;obtain⟨lo,l⟩:=gX s.lo;obtain⟨hi,k⟩:=gX s.hi;obtain⟨R,z⟩:=gX (RetR2 w (leastR s).1 (leastR s).2);rw [z];have HR:=hd9 z;unfold spc at y x ⊢;simp only [f1,f2,l,k]at y x ⊢;clear p r d f1 f2 l k z;have af:∀(fn:Fn) (first cap:Array Z) (w:Y),(Instr.makeFunc fn first cap).run Tryz.prog w = .ok (.func fn first cap) w:=fun _ _ _ _=>rfl
 go_enter Tryz.func54,Tryz.ntmps54;go_wp2;refine wp_region_held_drew (S:=CellL [(⟨w.heap.size,0,X⟩,O a1 n1 m1),(⟨w.heap.size,1,X⟩,O a2 n2 m2),(⟨w.heap.size,2,X⟩,I J lo),(⟨w.heap.size,3,X⟩,I J hi)]) kM cA (fun a=>?_);refine tk1 (i:=0) ?_;refine sN 2 ?_
 iterate 2
  refine tkn ?_
 refine oN ?_;refine cl1 (i:=1) fun K c=>?_
 go_simp
 (with_reducible refine cM (y.out _ eA) ?_)
 rintro e w3 ⟨r3,rfl,D,j⟩
 skip
 go_wp2_with fail
 refine kO c (cE a j) (fun a=>?_);clear c K;have X3:Ext w w3:=eA;refine cl1 (i:=4) fun K c=>?_
 go_simp
 (with_reducible refine cM (x.out _ X3 _ D.rs) ?_)
 rintro e w4 ⟨r4,r5,rfl,g,h,f⟩;obtain⟨⟨a4,m4,c4,s4,b4,n4,k4,rfl⟩,a5,m5,c5,s5,b5,n5,k5,rfl⟩:=And.intro g.form h.form
 go_wp2_with fail
 refine kO c (cE a f) (fun a=>?_);clear c K;refine sN 5 ?_
 iterate 2
  refine tkn ?_
 refine oN ?_;have X4:Ext w w4:=X3.trans f;have hO:RB w4 (w.heap.size+1) 0:=(((RB.new (IsR.zero _) sM).ext ((eR _).alloc _)).ext ((eR _).drew.trans j)).ext f;have hP:RB w4 (w.heap.size+1+1) 0:=((RB.new (IsR.zero _) sM).ext ((eR _).drew.trans j)).ext f;obtain⟨_,_,_,_,_,_,_,o0,o1,o2,T,aa,ab,zo,_⟩:=hO.rd;obtain⟨_,_,_,_,_,_,_,p0,p1,p2,ac,ad,ae,zp,_⟩:=hP.rd
 have o:∀b,w.heap.size<b→∀q∈[((⟨w.heap.size,0,X⟩:Addr),Value.slice a1 n1 m1),(⟨w.heap.size,1,X⟩,O a2 n2 m2),(⟨w.heap.size,2,X⟩,I J lo),(⟨w.heap.size,3,X⟩,I J hi)],b≠q.1.block:=by
  intro b hb q hq;simp at hq
  rcases hq with rfl|rfl|rfl|rfl<;>(dsimp only;omega)
 refine cl1 (i:=7) fun K c=>?_
 go_simp;refine kO c (CellL.set3 a (o _ oM) _ _ _) (fun a=>?_);clear c K;refine cl1 (i:=8) fun K c=>?_
 go_simp;refine kO c (CellL.set3 a (o _ oM) _ _ _) (fun a=>?_);clear c K;refine wpAnyH_done kM ?_ _;have P:=hd9 (RB.copy2 hO hP oM g h rfl rfl);go_wp2;refine bR (v:=L #[N #[O a4 m4 c4,A s4,O b4 n4 k4],N #[O a5 m5 c5,A s5,O b5 n5 k5]]) (by simp [results,Tryz.results54,go_sem,o0,o1,o2,T,aa,ab,p0,p1,p2,ac,ad,ae]) rfl ?_;rw [←HR.out];obtain⟨P1,P2,P3,P4,P5,P6⟩:=P.out;exact⟨_,_,rfl,g.keep P4,h.keep P4,P6 w X4 oM oM⟩
def freeB (ps a:List (Int×Int)):Bool:=if (btw ps a).lo<(btw ps a).hi then decide (0≤(leastR (btw ps a)).2.num.sign)else true
theorem zfk (w:Y) (p q:Z) (ps c:List (Int×Int)) (m:IsPts w p ps) (o:IsPts w q c) (z:LnOk ps) (D:LnOk c) :
  Calls Tryz.prog 96 #[p,q] w fun e w'=>e = .returned (A (freeB ps c))∧Ext w w':=by
 have l1:0<ps.length:=List.length_pos_iff.2 z.1;have l2:0<c.length:=List.length_pos_iff.2 D.1;have a:=hd9 (fun(W:Y) (i:Ext w W)=>za3 W p q ps c (m.ext' i) (o.ext' i) l1 l2);have l:=hd9 (fun(W:Y) (i:Ext w W)=>zcn W p q (btw ps c) (m.ext' i) (o.ext' i) (zct z D));obtain⟨B,r⟩:=gX (freeB ps c);rw [r];have d:=hd9 r;unfold freeB at d;obtain⟨s,hs⟩:=gX (btw ps c);rw [hs]at d a l;obtain⟨a1,m1,rfl⟩:=m.form;obtain⟨a2,m2,rfl⟩:=o.form;obtain⟨n1,T⟩:=gX ps.length;obtain⟨n2,f2⟩:=gX c.length;obtain⟨K,h⟩:=gX s.lo;obtain⟨v,g⟩:=gX s.hi;unfold RetBt at a;unfold spc at a l;simp only [T,f2,h,g]at d a l ⊢;clear m o z D l1 l2 r hs T f2 h g
 by_cases b:K<v
 ·have e:decide (K<v)=true:=by simpa using b
  rw [if_pos b]at d;rw [e]at a;obtain⟨k,x⟩:=gX ((leastR s).2.num.sign);rw [x]at d;have Hk:=hd9 x;clear x e b;go_enter Tryz.func96,Tryz.ntmps96
  go_wp2_with(first|(go_at_call 53;(with_reducible refine(a.out _ ?_).mono ?_);exact eA;rintro e w3 ⟨rfl,f⟩;obtain⟨t,u⟩:=f.cells)|(go_at_call 54;(with_reducible refine(l.out _ ?_).mono ?_);exact eA;rintro e w4 ⟨r4,r5,rfl,y,j,aa⟩;obtain⟨a4,m4,c4,s4,b4,n4,k4,rfl⟩:=y.form;obtain⟨a5,m5,c5,s5,b5,n5,k5,rfl⟩:=j.form)|(go_at_call 21;(with_reducible refine(zbp _ _ _ (j.ext ?_)).mono ?_);exact eA;rintro e w6 ⟨rfl,ab⟩;rw [Hk.out]))
  go_ret;exact⟨by rw [←d.out];rfl,eA⟩
 ·have e:decide (K<v)=false:=by simpa using b
  rw [if_neg b]at d;rw [e]at a;clear e b;go_enter Tryz.func96,Tryz.ntmps96
  go_wp2_with(first|(go_at_call 53;(with_reducible refine(a.out _ ?_).mono ?_);exact eA;rintro e w3 ⟨rfl,f⟩;obtain⟨t,u⟩:=f.cells))
  go_ret;exact⟨by rw [←d.out];rfl,eA⟩
def relP (p q:Pl):Int:=
 if lineR (lowP2 p)≤lineL (lowP2 q)then 1
 else if lineR (lowP2 q)≤lineL (lowP2 p)then 2
 else if freeB (lowP2 p) (upP2 q)then 3
 else if freeB (lowP2 q) (upP2 p)then 4
 else 5
def PLa (w:Y) (c:List Z) (p:Pl):Prop:=∃v vl vu,c=(lac p v vl vu).toList∧IsPts w v p.shape∧IsPts w vl (lowP2 p)∧IsPts w vu (upP2 p)
def IsLa (w:Y) (v:Z) (p:Pl):Prop:=∃s vl vu,v=N (lac p s vl vu)∧IsPts w s p.shape∧IsPts w vl (lowP2 p)∧IsPts w vu (upP2 p)
theorem IsLa.ext {w w':Y} {v:Z} {p:Pl} (h:IsLa w v p) (k:Ext w w'):IsLa w' v p:=by
 obtain⟨s,e,f,a,b,c,d⟩:=h;exact⟨s,e,f,a,b.ext' k,c.ext' k,d.ext' k⟩
theorem IsLa.keep {w w':Y} {v:Z} {p:Pl} (h:IsLa w v p) (k:KeepT 33 w w'):IsLa w' v p:=by
 obtain⟨s,e,f,a,b,c,d⟩:=h;exact⟨s,e,f,a,b.keep' k,c.keep' k,d.keep' k⟩
abbrev IsLas (w:Y) (v:Z) (ps:List Pl):Prop:=Sl 101 12 PLa w v ps
theorem PLa.ext {w w':Y} {c:List Z} {p:Pl} (h:PLa w c p) (k:Ext w w'):PLa w' c p:=by
 obtain⟨s,f,g,a,b,d,e⟩:=h;exact⟨s,f,g,a,b.ext' k,d.ext' k,e.ext' k⟩
theorem PLa.keep {w w':Y} {c:List Z} {p:Pl} (h:PLa w c p) (k:KeepT 33 w w'):PLa w' c p:=by
 obtain⟨s,f,g,a,b,d,e⟩:=h;exact⟨s,f,g,a,b.keep' k,d.keep' k,e.keep' k⟩
theorem IsLas.ext' {w w':Y} {v:Z} {ps:List Pl} (h:IsLas w v ps) (k:Ext w w'):IsLas w' v ps:=Sl.ext h (fun _ _ h=>PLa.ext h k) k
def LaS (a b:Nat) (p q:Pl) (c c2:Array Z) (W:Y):Prop:=W.heap[a]?=V (M c 101 (0,0))∧W.heap[b]?=V (M c2 101 (0,0))
theorem zbG (w:Y) (v1 v2:Z) (p q:Pl) (h1:IsLa w v1 p) (h2:IsLa w v2 q) (k1:placedOk p=true) (k2:placedOk q=true) :
  Calls Tryz.prog 42 #[v1,v2] w fun e w'=>e = .returned (I .u8 (relP p q))∧Ext w w':=by
 obtain⟨s1,l1,u1,rfl,p1,y,p3⟩:=h1;obtain⟨s2,l2,u2,rfl,q1,z,q3⟩:=h2;obtain⟨o1,o2⟩:=zae k1;obtain⟨o3,o4⟩:=zae k2;have HA:=hd9 (fun(W:Y) (c:Ext w W)=>za1 W l1 (lowP2 p) (y.ext' c) (List.length_pos_iff.2 o1.1));have HB:=hd9 (fun(W:Y) (c:Ext w W)=>zbc W l2 (lowP2 q) (z.ext' c) (List.length_pos_iff.2 o3.1));have HC:=hd9 (fun(W:Y) (c:Ext w W)=>zbc W l1 (lowP2 p) (y.ext' c) (List.length_pos_iff.2 o1.1));have HD:=hd9 (fun(W:Y) (c:Ext w W)=>za1 W l2 (lowP2 q) (z.ext' c) (List.length_pos_iff.2 o3.1));have HE:=hd9 (fun(W:Y) (c:Ext w W)=>zfk W l1 u2 (lowP2 p) (upP2 q) (y.ext' c) (q3.ext' c) o1 o4);have HF:=hd9 (fun(W:Y) (c:Ext w W)=>zfk W l2 u1 (lowP2 q) (upP2 p) (z.ext' c) (p3.ext' c) o3 o2);obtain⟨ar,av,rfl⟩:=p1.form;obtain⟨au,aw,rfl⟩:=q1.form;obtain⟨a1,c1,rfl⟩:=y.form;obtain⟨a2,c2,rfl⟩:=z.form;obtain⟨D,aa,rfl⟩:=p3.form;obtain⟨T,ab,rfl⟩:=q3.form;obtain⟨k,hk⟩:=gX (relP p q);have g:=hd9 hk;unfold relP at g;rw [hk];obtain⟨n1,f1⟩:=gX ((lowP2 p).length);obtain⟨n2,f2⟩:=gX ((lowP2 q).length);obtain⟨m1,f3⟩:=gX ((upP2 p).length);obtain⟨m2,f4⟩:=gX ((upP2 q).length);obtain⟨j1,f5⟩:=gX p.shape.length;obtain⟨j2,f6⟩:=gX q.shape.length;obtain⟨rp,f7⟩:=gX (lineR (lowP2 p));obtain⟨lp,f8⟩:=gX (lineL (lowP2 p));obtain⟨rq,f9⟩:=gX (lineR (lowP2 q));obtain⟨lq,s⟩:=gX (lineL (lowP2 q));obtain⟨fa,t⟩:=gX (freeB (lowP2 p) (upP2 q));obtain⟨fb,u⟩:=gX (freeB (lowP2 q) (upP2 p));simp only [f1,f2,f3,f4,f5,f6,f7,f8,f9,s,t,u]at HA HB HC HD HE HF g ⊢;obtain⟨nm,sh,d,de,gx,gz,wy,ax,az,sk⟩:=p;obtain⟨aq,ay,d',an,ao,ap,aB,ah,ai,aA⟩:=q;clear hk p1 y p3 q1 z q3 o1 o2 o3 o4 k1 k2 f1 f2 f3 f4 f5 f6 f7 f8 f9 s t u;unfold lac;dsimp only;go_enter Tryz.func42,Tryz.ntmps42;go_wp2;refine wp_region_held_drew (S:=CellL [(⟨w.heap.size,10,X⟩,O a1 n1 c1),(⟨w.heap.size+1,10,X⟩,O a2 n2 c2),(⟨w.heap.size,11,X⟩,O D m1 aa),(⟨w.heap.size+1,11,X⟩,O T m2 ab)]) kM cA (fun a=>?_);refine sN 0 ?_
 iterate 2
  refine tkn ?_
 refine oN ?_;refine sN 3 ?_
 iterate 2
  refine tkn ?_
 refine oN ?_;refine cl1 (i:=2) fun K f=>?_
 go_simp
 (with_reducible refine cM (HA.out _ eA) ?_)
 rintro e w3 ⟨rfl,v⟩
 skip
 go_wp2_with fail
 refine kO f (cE a v) (fun a=>?_);clear f K;have X3:Ext w w3:=eA;refine cl1 (i:=5) fun K f=>?_
 go_simp
 (with_reducible refine cM (HB.out _ X3) ?_)
 rintro e w4 ⟨rfl,h⟩
 skip
 go_wp2_with fail
 refine kO f (cE a h) (fun a=>?_);clear f K;have X4:Ext w w4:=X3.trans h;refine sN 6 ?_
 iterate 2
  refine tkn ?_
 refine oN ?_;refine wpAnyH_done kM ?_ _;obtain⟨aj,ak,al,am,_⟩:=a
 (try clear v);clear h X3
 by_cases g1:rp≤lq
 ·go_wp2
  go_ret;exact⟨by rw [←g.out,if_pos g1];rfl,X4⟩
 rw [if_neg g1]at g;have aC:=X4.size;go_wp2;refine wp_region_held_drew (S:=CellL [(⟨w.heap.size,10,X⟩,O a1 n1 c1),(⟨w.heap.size+1,10,X⟩,O a2 n2 c2),(⟨w.heap.size,11,X⟩,O D m1 aa),(⟨w.heap.size+1,11,X⟩,O T m2 ab)]) kM cA (fun a=>?_);refine sN 0 ?_
 iterate 2
  refine tkn ?_
 refine oN ?_;refine sN 3 ?_
 iterate 2
  refine tkn ?_
 refine oN ?_;refine cl1 (i:=2) fun K f=>?_
 go_simp
 (with_reducible refine cM (HC.out _ eA) ?_)
 rintro e w5 ⟨rfl,x⟩
 skip
 go_wp2_with fail
 refine kO f (cE a x) (fun a=>?_);clear f K;have X5:Ext w w5:=eA;refine cl1 (i:=5) fun K f=>?_
 go_simp
 (with_reducible refine cM (HD.out _ X5) ?_)
 rintro e w6 ⟨rfl,j⟩
 skip
 go_wp2_with fail
 refine kO f (cE a j) (fun a=>?_);clear f K;have X6:Ext w w6:=X5.trans j;refine sN 6 ?_
 iterate 2
  refine tkn ?_
 refine oN ?_;refine wpAnyH_done kM ?_ _;obtain⟨l,m,o,r,_⟩:=a
 (try clear x);clear j X5
 by_cases g2:rq≤lp
 ·go_wp2
  go_ret;exact⟨by rw [←g.out,if_pos g2];rfl,X6⟩
 rw [if_neg g2]at g
 cases fa with
 | true =>
  go_wp2_with(go_at_call 96;(with_reducible refine(HE.out _ ?_).mono ?_);exact eA;rintro e w7 ⟨rfl,b⟩)
  go_ret;exact⟨by rw [←g.out];rfl,eA⟩
 | false =>
  cases fb with
  | true =>
   go_wp2_with(first|(go_at_call 96;(with_reducible refine(HE.out _ ?_).mono ?_);exact eA;rintro e w7 ⟨rfl,b⟩;have ac:=b.cellS l;have ad:=b.cellS m;have ae:=b.cellS o;have af:=b.cellS r)|(go_at_call 96;(with_reducible refine(HF.out _ ?_).mono ?_);exact eA;rintro e w8 ⟨rfl,ag⟩))
   go_ret;exact⟨by rw [←g.out];rfl,eA⟩
  | false =>
   go_wp2_with(first|(go_at_call 96;(with_reducible refine(HE.out _ ?_).mono ?_);exact eA;rintro e w7 ⟨rfl,b⟩;have ac:=b.cellS l;have ad:=b.cellS m;have ae:=b.cellS o;have af:=b.cellS r)|(go_at_call 96;(with_reducible refine(HF.out _ ?_).mono ?_);exact eA;rintro e w8 ⟨rfl,ag⟩))
   go_ret;exact⟨by rw [←g.out];rfl,eA⟩
theorem IsLas.at' {w:Y} {a:Option Addr} {n c:Nat} {ps:List Pl} (h:IsLas w (O a n c) ps) {i:Nat} {p:Pl} (q:ps[i]?=V p) :
  ∃b o s vl vu,a=V ⟨b,o,X⟩∧b<w.heap.size∧IsPts w s p.shape∧IsPts w vl (lowP2 p)∧IsPts w vu (upP2 p) ∧
   ∀(j:Nat) u,(lac p s vl vu)[j]?=V u→w.cell? ⟨b,o+i*12+j,X⟩=V u:=by
 obtain⟨b,o,d,rfl,k,r,⟨s,vl,vu,rfl,e,f,g⟩,l⟩:=Sl.at h q;exact⟨b,o,s,vl,vu,rfl,k,e,f,g,fun j u m=>l j u (by rw [Array.getElem?_toList];exact m)⟩
def LaB (W:Y) (b:Nat) (p:Pl) (s a c:Z):Prop:=W.heap[b]?=V (M (lac p s a c) 101 (0,0))∧IsPts W s p.shape∧IsPts W a (lowP2 p)∧IsPts W c (upP2 p)
theorem LaB.ext {W W':Y} {b:Nat} {p:Pl} {s a c:Z} (h:LaB W b p s a c) (k:Ext W W'):LaB W' b p s a c:=⟨k.heapS h.1,h.2.1.ext' k,h.2.2.1.ext' k,h.2.2.2.ext' k⟩
def clashB (q p:Pl):Bool:=meetB q p&&(relP q p==5)
def nameB (a:ByteArray) (p:Pl):Bool:=p.name.toList==a.toList
theorem zly (w:Y) (l:Z) (p:Pl) (g:ByteArray) (a:Nat) (h:IsLa w l p) (m:w.cell? ⟨a,0,X⟩=V (.string g)) :
  Calls Tryz.prog 103 #[l,F (V ⟨a,0,X⟩)] w fun e t=>e = .returned (A (nameB g p))∧Ext w t:=by
 obtain⟨s1,l1,u1,rfl,i,j,k⟩:=h;obtain⟨o,q,rfl⟩:=i.form;obtain⟨v,z,rfl⟩:=j.form;obtain⟨r,s,rfl⟩:=k.form;obtain⟨n1,b⟩:=gX ((lowP2 p).length);obtain⟨m1,c⟩:=gX ((upP2 p).length);obtain⟨W,f⟩:=gX p.shape.length;rw [b,c,f];obtain⟨np,sh,d,D,K,T,wy,x,y,sk⟩:=p;clear i j k b c f;have zq:a<w.heap.size:=World.block_lt_of_cell? w _ m;have u:a<w.heap.size+1:=oM
 unfold lac nameB;dsimp only;go_enter Tryz.func103,Tryz.ntmps103;go_wp2;go_ret;exact⟨rfl,eA⟩
theorem zk6 (w:Y) (vp:Z) (p q:Pl) (k:Nat) (s vl vu:Z) (h:IsLa w vp p) (hq:LaB w k q s vl vu) (k1:placedOk p=true) (k2:placedOk q=true) :
  Calls Tryz.prog 104 #[vp,F (V ⟨k,0,X⟩)] w fun e w'=>e = .returned (A (clashB q p))∧Ext w w':=by
 obtain⟨b,o,T,q3⟩:=hq;have j:=hd9 (fun(W:Y) (l:Ext w W)=>zbG W (N (lac q s vl vu)) vp q p ⟨_,_,_,rfl,o.ext' l,T.ext' l,q3.ext' l⟩ (h.ext l) k2 k1);obtain⟨s1,l1,u1,rfl,K,p2,p3⟩:=h;have f:=hd9 (fun(W:Y)=>zck W q p s s1 (by obtain⟨a,c,h⟩:=o.form;exact⟨a,_,c,h⟩) (by obtain⟨a,c,h⟩:=K.form;exact⟨a,_,c,h⟩));obtain⟨ay,aA,rfl⟩:=K.form;obtain⟨a1,c1,rfl⟩:=p2.form;obtain⟨aC,aD,rfl⟩:=p3.form;obtain⟨aa,ab,rfl⟩:=o.form;obtain⟨a2,c2,rfl⟩:=T.form;obtain⟨ad,ae,rfl⟩:=q3.form;obtain⟨n1,f1⟩:=gX ((lowP2 p).length);obtain⟨n2,f2⟩:=gX ((lowP2 q).length);obtain⟨m1,f3⟩:=gX ((upP2 p).length);obtain⟨m2,f4⟩:=gX ((upP2 q).length);obtain⟨j1,f5⟩:=gX p.shape.length;obtain⟨j2,f6⟩:=gX q.shape.length;obtain⟨r,f7⟩:=gX (relP q p);obtain⟨m,f8⟩:=gX (meetB q p);unfold clashB;simp only [f1,f2,f3,f4,f5,f6,f7,f8]at j f b ⊢;obtain⟨nm,sh,d,de,gx,gz,wy,ax,az,sk⟩:=p;obtain⟨D,aB,d',x,y,z,af,t,v,ac⟩:=q;unfold lac at j b ⊢;unfold plc at f;dsimp only at j f b ⊢;have ai:=qcB b (i:=0) (u:=.string D) rfl;have aj:=qcB b (i:=1) (u:=O aa j2 ab) rfl;have ak:=qcB b (i:=2) (u:=I J d') rfl;have al:=qcB b (i:=3) (u:=I J x) rfl;have am:=qcB b (i:=4) (u:=I J y) rfl;have an:=qcB b (i:=5) (u:=I J z) rfl;have ao:=qcB b (i:=6) (u:=I J af) rfl;have ap:=qcB b (i:=7) (u:=I J t) rfl;have aq:=qcB b (i:=8) (u:=I J v) rfl;have ar:=qcB b (i:=9) (u:=I .u8 ac) rfl;have ag:=qcB b (i:=10) (u:=O a2 n2 c2) rfl;have ah:=qcB b (i:=11) (u:=O ad m2 ae) rfl;have zq:k<w.heap.size:=zaa b;have aE:k<w.heap.size+1:=oM
 clear b K p2 p3 o T q3 k1 k2 f1 f2 f3 f4 f5 f6 f7 f8
 cases m with
 | false =>
  go_enter Tryz.func104,Tryz.ntmps104
  go_wp2_with(go_at_call 50;(with_reducible refine(f.out _).mono ?_);rintro e w3 ⟨rfl,g⟩)
  go_ret;exact⟨rfl,eA⟩
 | true =>
  go_enter Tryz.func104,Tryz.ntmps104
  go_wp2_with(first|(go_at_call 50;(with_reducible refine(f.out _).mono ?_);rintro e w3 ⟨rfl,g⟩;obtain⟨au,av⟩:=g.cells)|(go_at_call 42;(with_reducible refine(j.out _ ?_).mono ?_);exact eA;rintro e w4 ⟨rfl,aw⟩))
  go_ret;exact⟨rfl,eA⟩
def IlS (w:Y) (f:Pl→Bool) (ps:List Pl) (g:Nat) (a:Z) (W:Y):Prop:=
 ∃i:Nat,i≤ps.length∧a=I J i∧g=ps.length-i∧Ext w W∧∀j y,j<i→ps[j]?=V y→f y=false
theorem zjF (w:Y) (v:Z) (ps:List Pl) (bq:Nat) (f:Pl→Bool) (h:IsLas w v ps)
  (hf:∀W,Ext w W→∀vp p,p∈ps→IsLa W vp p→Calls Tryz.prog 103 #[vp,F (V ⟨bq,0,X⟩)] W fun e w'=>e = .returned (A (f p))∧Ext W w') :
  Calls Tryz.prog 138 #[v,.func (.func 103) #[] #[F (V ⟨bq,0,X⟩)]] w fun e w'=>e = .returned (I J (idxB f ps))∧Ext w w':=by
 obtain⟨a,c,rfl⟩:=h.form;obtain⟨n,hn⟩:=gX ps.length;rw [hn]at h ⊢;have r:=h.le;unfold maxLen at r;have au:n≤9223372036854775807:=oM
 have k:=hd9 hn;have Hf:=hd9 hf;clear hn r hf;go_enter Tryz.func138,Tryz.ntmps138;go_wp2
 go_loopg [8] n (IlS w f ps)
 case atStart=>exact⟨0,by omega,rfl,by rw [k.out];rfl,eR _,fun j y x=>by omega⟩
 case round =>
  obtain⟨i,hi,rfl,rfl,hx,l⟩:=hrel;rw [k.out]at hi;have g:=hd9 l;clear l
  by_cases ab:i<n
  ·obtain⟨p,z⟩:∃q,ps[i]?=V q:=⟨ps[i]'(by rw [k.out];omega),by simp [k.out,ab]⟩
   obtain⟨b,o,s,vl,vu,rfl,hb,K,T,d3,d⟩:=(h.ext' hx).at' z;have m:=hd9 (fun W (u:Ext wr W)=>Hf.out W (hx.trans u) (N (lac p s vl vu)) p (lM z) ⟨_,_,_,rfl,K.ext' u,T.ext' u,d3.ext' u⟩);obtain⟨ad,ae,rfl⟩:=K.form;obtain⟨a1,c1,rfl⟩:=T.form;obtain⟨af,ag,rfl⟩:=d3.form;obtain⟨n1,f1⟩:=gX ((lowP2 p).length);obtain⟨m1,f3⟩:=gX ((upP2 p).length);obtain⟨j1,f5⟩:=gX p.shape.length;obtain⟨fp,f7⟩:=gX (f p);rw [f1,f3,f5]at d m;rw [f7]at m;have F7:=hd9 f7;have D:=d 0 (.string p.name) rfl;have aj:=d 1 (O ad j1 ae) rfl;have ak:=d 2 (I J p.depth) rfl;have al:=d 3 (I J p.density) rfl;have am:=d 4 (I J p.gx) rfl;have an:=d 5 (I J p.gz) rfl;have ao:=d 6 (I J p.way) rfl;have ap:=d 7 (I J p.ax) rfl;have aq:=d 8 (I J p.az) rfl;have ar:=d 9 (I .u8 p.skin) rfl;have ah:=d 10 (O a1 n1 c1) rfl;have ai:=d 11 (O af m1 ag) rfl;simp only [Nat.add_zero]at D;have Hq:=hd9 z;unfold lac at m;clear z d K T d3 f1 f3 f5 f7
   cases fp with
   | true =>
    have e:idxB f ps=(i:Int):=zcL Hq.out F7.out g.out;have E:=hd9 e;clear e
    go_wp2_with(((go_at_call 103;(with_reducible refine(m.out _ ?_).mono ?_);exact eA;rintro e w1 ⟨rfl,ac⟩)))
    go_ret;exact⟨by rw [E.out];rfl,eA⟩
   | false =>
    go_wp2_with(((go_at_call 103;(with_reducible refine(m.out _ ?_).mono ?_);exact eA;rintro e w1 ⟨rfl,ac⟩)))
    go_roundg (n-(i+1))
    case measure=>have:=k.out;omega
    case rel =>
     refine⟨i+1,by have:=k.out;omega,by go_num,by rw [k.out],eA,fun j y x t=>?_⟩
     by_cases aa:j=i
     ·subst aa;rw [Hq.out]at t;cases t;exact F7.out
     ·exact g.out j y oM t
  ·obtain rfl:i=n:=oM
   have e:idxB f ps = -1:=zcK (fun j y x t=>g.out j y (by rw [k.out]at x;exact x) t);have E:=hd9 e;clear e;go_wp2;go_ret;exact⟨by rw [E.out];rfl,hx⟩
theorem zi5 (w:Y) (v:Z) (ps:List Pl) (b:Nat) (f:Pl→Bool) (h:IsLas w v ps)
  (k:∀W,Ext w W→∀vp p,p∈ps→IsLa W vp p→Calls Tryz.prog 103 #[vp,F (V ⟨b,0,X⟩)] W fun e g=>e = .returned (A (f p))∧Ext W g) :
  Calls Tryz.prog 102 #[v,.func (.func 103) #[] #[F (V ⟨b,0,X⟩)]] w fun e g=>e = .returned (A (ps.any f))∧Ext w g:=by
 rw [←zfm];obtain⟨x,l⟩:=gX (idxB f ps);have j:=fun W (i:Ext w W)=>zjF W v ps b f (h.ext' i) (fun W' d=>k W' (i.trans d))
 obtain⟨a,n,c,rfl⟩:∃a n c,v=O a n c:=by obtain⟨a,c,h⟩:=h.form;exact⟨a,_,c,h⟩
 rw [l]at *;have m:=hd9 j;clear j l h k;go_enter Tryz.func102,Tryz.ntmps102
 go_wp2_with(((go_at_call 138;(with_reducible refine(m.out _ ?_).mono ?_);exact eA;rintro e q ⟨rfl,o⟩)))
 go_ret;exact⟨rfl,eA⟩
theorem zjD (w:Y) (v:Z) (ps:List Pl) (bq:Nat) (f:Pl→Bool) (h:IsLas w v ps)
  (hf:∀W,Ext w W→∀vp p,p∈ps→IsLa W vp p→Calls Tryz.prog 104 #[vp,F (V ⟨bq,0,X⟩)] W fun e w'=>e = .returned (A (f p))∧Ext W w') :
  Calls Tryz.prog 138 #[v,.func (.func 104) #[] #[F (V ⟨bq,0,X⟩)]] w fun e w'=>e = .returned (I J (idxB f ps))∧Ext w w':=by
 obtain⟨a,c,rfl⟩:=h.form;obtain⟨n,hn⟩:=gX ps.length;rw [hn]at h ⊢;have r:=h.le;unfold maxLen at r;have au:n≤9223372036854775807:=oM
 have k:=hd9 hn;have Hf:=hd9 hf;clear hn r hf;go_enter Tryz.func138,Tryz.ntmps138;go_wp2
 go_loopg [8] n (IlS w f ps)
 case atStart=>exact⟨0,by omega,rfl,by rw [k.out];rfl,eR _,fun j y x=>by omega⟩
 case round =>
  obtain⟨i,hi,rfl,rfl,hx,l⟩:=hrel;rw [k.out]at hi;have g:=hd9 l;clear l
  by_cases ab:i<n
  ·obtain⟨p,z⟩:∃q,ps[i]?=V q:=⟨ps[i]'(by rw [k.out];omega),by simp [k.out,ab]⟩
   obtain⟨b,o,s,vl,vu,rfl,hb,K,T,d3,d⟩:=(h.ext' hx).at' z;have m:=hd9 (fun W (u:Ext wr W)=>Hf.out W (hx.trans u) (N (lac p s vl vu)) p (lM z) ⟨_,_,_,rfl,K.ext' u,T.ext' u,d3.ext' u⟩);obtain⟨ad,ae,rfl⟩:=K.form;obtain⟨a1,c1,rfl⟩:=T.form;obtain⟨af,ag,rfl⟩:=d3.form;obtain⟨n1,f1⟩:=gX ((lowP2 p).length);obtain⟨m1,f3⟩:=gX ((upP2 p).length);obtain⟨j1,f5⟩:=gX p.shape.length;obtain⟨fp,f7⟩:=gX (f p);rw [f1,f3,f5]at d m;rw [f7]at m;have F7:=hd9 f7;have D:=d 0 (.string p.name) rfl;have aj:=d 1 (O ad j1 ae) rfl;have ak:=d 2 (I J p.depth) rfl;have al:=d 3 (I J p.density) rfl;have am:=d 4 (I J p.gx) rfl;have an:=d 5 (I J p.gz) rfl;have ao:=d 6 (I J p.way) rfl;have ap:=d 7 (I J p.ax) rfl;have aq:=d 8 (I J p.az) rfl;have ar:=d 9 (I .u8 p.skin) rfl;have ah:=d 10 (O a1 n1 c1) rfl;have ai:=d 11 (O af m1 ag) rfl;simp only [Nat.add_zero]at D;have Hq:=hd9 z;unfold lac at m;clear z d K T d3 f1 f3 f5 f7
   cases fp with
   | true =>
    have e:idxB f ps=(i:Int):=zcL Hq.out F7.out g.out;have E:=hd9 e;clear e
    go_wp2_with(((go_at_call 104;(with_reducible refine(m.out _ ?_).mono ?_);exact eA;rintro e w1 ⟨rfl,ac⟩)))
    go_ret;exact⟨by rw [E.out];rfl,eA⟩
   | false =>
    go_wp2_with(((go_at_call 104;(with_reducible refine(m.out _ ?_).mono ?_);exact eA;rintro e w1 ⟨rfl,ac⟩)))
    go_roundg (n-(i+1))
    case measure=>have:=k.out;omega
    case rel =>
     refine⟨i+1,by have:=k.out;omega,by go_num,by rw [k.out],eA,fun j y x t=>?_⟩
     by_cases aa:j=i
     ·subst aa;rw [Hq.out]at t;cases t;exact F7.out
     ·exact g.out j y oM t
  ·obtain rfl:i=n:=oM
   have e:idxB f ps = -1:=zcK (fun j y x t=>g.out j y (by rw [k.out]at x;exact x) t);have E:=hd9 e;clear e;go_wp2;go_ret;exact⟨by rw [E.out];rfl,hx⟩
theorem zi3 (w:Y) (v:Z) (ps:List Pl) (b:Nat) (f:Pl→Bool) (h:IsLas w v ps)
  (k:∀W,Ext w W→∀vp p,p∈ps→IsLa W vp p→Calls Tryz.prog 104 #[vp,F (V ⟨b,0,X⟩)] W fun e g=>e = .returned (A (f p))∧Ext W g) :
  Calls Tryz.prog 102 #[v,.func (.func 104) #[] #[F (V ⟨b,0,X⟩)]] w fun e g=>e = .returned (A (ps.any f))∧Ext w g:=by
 rw [←zfm];obtain⟨x,l⟩:=gX (idxB f ps);have j:=fun W (i:Ext w W)=>zjD W v ps b f (h.ext' i) (fun W' d=>k W' (i.trans d))
 obtain⟨a,n,c,rfl⟩:∃a n c,v=O a n c:=by obtain⟨a,c,h⟩:=h.form;exact⟨a,_,c,h⟩
 rw [l]at *;have m:=hd9 j;clear j l h k;go_enter Tryz.func102,Tryz.ntmps102
 go_wp2_with(((go_at_call 138;(with_reducible refine(m.out _ ?_).mono ?_);exact eA;rintro e q ⟨rfl,o⟩)))
 go_ret;exact⟨rfl,eA⟩
theorem zbC {g:List (Int×Int)} (h:groundB g=true):LnOk g:=by
 unfold groundB at h;rw [Bool.and_eq_true,List.all_eq_true]at h;obtain⟨b,j⟩:=h;unfold wthn at b;simp at b;refine⟨fun e=>by subst e;simp at b,fun p k=>?_,by omega⟩;obtain⟨i,f,rfl⟩:=List.mem_iff_getElem.1 k;have a:=j i (List.mem_range.2 f);unfold grdR at a;rw [gD,gE f,Option.getD_some]at a;simp only [Bool.and_eq_true,Bool.not_eq_true']at a;have c:=a.1;have d:=a.2.1;unfold pfarB at c d;simp at c d
 constructor<;>(unfold Bd;omega)
def holdsB (g:List (Int×Int)) (p:Pl):Bool:=decide (lineL g≤lineL (lowP2 p))&&decide (lineR (lowP2 p)≤lineR g)
def clearB (g:List (Int×Int)) (ps:List Pl) (p:Pl):Bool:=freeB (lowP2 p) g&&!ps.any (clashB p)
theorem form3 {T:TypeId} {k:Nat} {α:Type} {P:Y→List Z→α→Prop} {w:Y} {v:Z} {xs:List α} (h:Sl T k P w v xs):∃a n c,v=O a n c:=by obtain⟨a,c,h⟩:=h.form;exact⟨a,_,c,h⟩
theorem zbz (w:Y) (l i:Z) (ps:List Pl) (b:ByteArray) (q:∃a n c,l=O a n c) (h:IsLas w i ps) :
  Calls Tryz.prog 48 #[N #[l,i],.string b] w fun e y=>e = .returned (A (ps.any (nameB b)))∧Ext w y:=by
 obtain⟨z,K,D,rfl⟩:=q;have g:=fun W (o:Ext w W) (d:Nat) (t:W.cell? ⟨d,0,X⟩=V (.string b))=>zi5 W i ps d (nameB b) (h.ext' o) (fun W' f v p _ s=>zly W' v p b d s (f.cellS t))
 obtain⟨a,n,c,rfl⟩:=form3 h;obtain⟨x,k⟩:=gX (ps.any (nameB b));simp only [k]at g ⊢;have m:=hd9 g;clear g k h;have r:∀(j:Fn) (first cap:Array Z) (w:Y),(Instr.makeFunc j first cap).run Tryz.prog w = .ok (.func j first cap) w:=fun _ _ _ _=>rfl
 go_enter Tryz.func48,Tryz.ntmps48
 go_wp2_with(((go_at_call 102;(with_reducible refine(m.out _ ?_ _ ?_).mono ?_);exact eA;(focus(go_simp;done));rintro e T ⟨rfl,u⟩)))
 go_ret;exact⟨rfl,eA⟩
theorem zdI (w:Y) (y z vp:Z) (g:List (Int×Int)) (ps:List Pl) (p:Pl) (o:IsPts w y g) (h:IsLas w z ps) (hp:IsLa w vp p) (k0:LnOk g) (k1:∀q∈ps,placedOk q=true) (t:placedOk p=true) :
  Calls Tryz.prog 49 #[N #[y,z],vp] w fun e w'=>e = .returned (A (clearB g ps p))∧Ext w w':=by
 obtain⟨s1,u,u1,rfl,v,k,x⟩:=hp;have j:=hd9 (fun W (f:Ext w W) (m:Nat) (hq:W.heap[m]?=V (M (lac p s1 u u1) 101 (0,0)))=>zi3 W z ps m (clashB p) (h.ext' f) (fun W' b vq q s r=>zk6 W' vq q p m s1 u u1 r ⟨b.heapS hq,v.ext' (f.trans b),k.ext' (f.trans b),x.ext' (f.trans b)⟩ (k1 q s) t));have l:=hd9 (fun W (f:Ext w W)=>zfk W u y (lowP2 p) g (k.ext' f) (o.ext' f) (zae t).1 k0);obtain⟨ga,gn,gc,rfl⟩:=form3 o;obtain⟨a,n,c,rfl⟩:=form3 h;obtain⟨ae,ag,af,rfl⟩:=form3 v;obtain⟨a1,n1,c1,rfl⟩:=form3 k;obtain⟨ah,aj,ai,rfl⟩:=form3 x;obtain⟨fr,D⟩:=gX (freeB (lowP2 p) g);obtain⟨cl,K⟩:=gX (ps.any (clashB p));unfold clearB;rw [D]at l ⊢;rw [K]at j ⊢;obtain⟨nm,sh,d,de,gx,gz,wy,ax,az,sk⟩:=p;clear D K o h v k x k0 k1 t;unfold lac at j ⊢;dsimp only at j ⊢;have ac:∀(T:Fn) (first cap:Array Z) (w:Y),(Instr.makeFunc T first cap).run Tryz.prog w = .ok (.func T first cap) w:=fun _ _ _ _=>rfl
 cases fr with
 | false =>
  go_enter Tryz.func49,Tryz.ntmps49
  go_wp2_with(go_at_call 96;(with_reducible refine(l.out _ ?_).mono ?_);exact eA;rintro e w1 ⟨rfl,i⟩)
  go_ret;exact⟨rfl,eA⟩
 | true =>
  go_enter Tryz.func49,Tryz.ntmps49
  go_wp2_with(first|(go_at_call 96;(with_reducible refine(l.out _ ?_).mono ?_);exact eA;rintro e w1 ⟨rfl,i⟩;obtain⟨aa,ab⟩:=i.cells)|(go_at_call 102;(with_reducible refine(j.out _ ?_ _ ?_).mono ?_);exact eA;(exact i.heapS (qhA _ _ _ sM));rintro e w2 ⟨rfl,ad⟩))
  go_ret;exact⟨rfl,eA⟩
theorem zdW (w:Y) (s vs vp:Z) (g:List (Int×Int)) (p:Pl) (q:IsPts w s g) (h:∃a n c,vs=O a n c) (hp:IsLa w vp p) (x:LnOk g) (k2:placedOk p=true) :
  Calls Tryz.prog 47 #[N #[s,vs],vp] w fun e w'=>e = .returned (A (holdsB g p))∧Ext w w':=by
 obtain⟨s1,l1,u1,rfl,p1,r,p3⟩:=hp;have y:=(zae k2).1;have D:=hd9 (fun(W:Y) (j:Ext w W)=>zbc W s g (q.ext' j) (List.length_pos_iff.2 x.1));have T:=hd9 (fun(W:Y) (j:Ext w W)=>zbc W l1 (lowP2 p) (r.ext' j) (List.length_pos_iff.2 y.1));have HC:=hd9 (fun(W:Y) (j:Ext w W)=>za1 W l1 (lowP2 p) (r.ext' j) (List.length_pos_iff.2 y.1));have HD:=hd9 (fun(W:Y) (j:Ext w W)=>za1 W s g (q.ext' j) (List.length_pos_iff.2 x.1));obtain⟨ga,gn,gc,rfl⟩:=form3 q;obtain⟨a,n,c,rfl⟩:=h;obtain⟨aa,ac,ab,rfl⟩:=form3 p1;obtain⟨a1,n1,c1,rfl⟩:=form3 r;obtain⟨ad,af,ae,rfl⟩:=form3 p3;unfold holdsB;obtain⟨u,f1⟩:=gX (lineL g);obtain⟨gr,f2⟩:=gX (lineR g);obtain⟨z,f3⟩:=gX (lineL (lowP2 p));obtain⟨pr,f4⟩:=gX (lineR (lowP2 p));simp only [f1,f2,f3,f4]at D T HC HD ⊢;obtain⟨nm,sh,d,de,gx,gz,wy,ax,az,sk⟩:=p;clear f1 f2 f3 f4 q p1 r p3 x k2 y;unfold lac;dsimp only;go_enter Tryz.func47,Tryz.ntmps47;go_wp2;refine wp_region_held_drew (S:=CellL [(⟨w.heap.size,0,X⟩,O ga gn gc),(⟨w.heap.size+1,10,X⟩,O a1 n1 c1)]) kM cA (fun b=>?_);refine sN 0 ?_
 iterate 2
  refine tkn ?_
 refine oN ?_;refine sN 3 ?_
 iterate 2
  refine tkn ?_
 refine oN ?_;refine cl1 (i:=2) fun K f=>?_
 go_simp
 (with_reducible refine cM (D.out _ eA) ?_)
 rintro e w3 ⟨rfl,v⟩
 skip
 go_wp2_with fail
 refine kO f (cE b v) (fun b=>?_);clear f K;have X3:Ext w w3:=eA;refine cl1 (i:=5) fun K f=>?_
 go_simp
 (with_reducible refine cM (T.out _ X3) ?_)
 rintro e w4 ⟨rfl,k⟩
 skip
 go_wp2_with fail
 refine kO f (cE b k) (fun b=>?_);clear f K;have t:=X3.trans k;refine sN 6 ?_
 iterate 2
  refine tkn ?_
 refine oN ?_
 by_cases g1:u≤z
 ·have o:decide (u≤z)=true:=by simpa using g1
  rw [o];refine sN 8 ?_
  iterate 2
   refine tkn ?_
  refine oN ?_;refine sN 11 ?_
  iterate 2
   refine tkn ?_
  refine oN ?_;refine cl1 (i:=10) fun K f=>?_
  go_simp
  (with_reducible refine cM (HC.out _ t) ?_)
  rintro e w5 ⟨rfl,l⟩
  skip
  go_wp2_with fail
  refine kO f (cE b l) (fun b=>?_);clear f K;have X5:=t.trans l;refine cl1 (i:=13) fun K f=>?_
  go_simp
  (with_reducible refine cM (HD.out _ X5) ?_)
  rintro e w6 ⟨rfl,m⟩
  skip
  go_wp2_with fail
  refine kO f (cE b m) (fun b=>?_);clear f K;have X6:=X5.trans m;refine sN 14 ?_
  iterate 3
   refine tkn ?_
  refine oN ?_;refine wpAnyH_done kM ?_ _;go_wp2;go_ret;exact⟨by rw [o];rfl,X6⟩
 ·have o:decide (u≤z)=false:=by simpa using g1
  rw [o];refine sN 8 ?_
  iterate 2
   refine tkgn ?_
  refine oN ?_;refine sN 11 ?_
  iterate 2
   refine tkgn ?_
  refine oN ?_;refine tkg1 (i:=10) ?_;refine sN 13 ?_
  iterate 2
   refine tkgn ?_
  iterate 2
   refine tkn ?_
  refine oN ?_;refine wpAnyH_done kM ?_ _;go_wp2;go_ret;exact⟨by simp,t⟩
def addE (g:List (Int×Int)) (done:List Pl) (p:Pl):Int:=if placedOk p then (if holdsB g p then (if done.any (nameB p.name)then 7 else 0)else 2)else 2
def laid1 (g:List (Int×Int)):List Pl→List Pl→Int
 | _,[]=>0
 | done,p::r=>if addE g done p=0 then laid1 g (done++[p]) r else addE g done p
def laid2 (g:List (Int×Int)):List Pl→List Pl→Int
 | _,[]=>0
 | done,p::r=>if clearB g done p then laid2 g (done++[p]) r else 12
def laidP (g:List (Int×Int)) (ps:List Pl):Int:=if groundB g then (if 120<ps.length then 5 else if laid1 g [] ps=0 then laid2 g [] ps else laid1 g [] ps)else 2
theorem zcI {α:Type} {ps:List α} {i:Nat} {p:α} (h:ps[i]?=V p):ps.drop i=p::ps.drop (i+1):=by
 obtain⟨a,rfl⟩:=lS.1 h;exact List.drop_eq_getElem_cons a
theorem zih {g:List (Int×Int)} {ps:List Pl} {i:Nat} {p:Pl} (h:ps[i]?=V p) (a:addE g (ps.take i) p=0):laid1 g (ps.take i) (ps.drop i)=laid1 g (ps.take (i+1)) (ps.drop (i+1)):=by
 rw [zcI h,zab _ _ _ h,laid1,if_pos a]
theorem zdd {g:List (Int×Int)} {ps:List Pl} {i:Nat} {p:Pl} (h:ps[i]?=V p) (a:addE g (ps.take i) p≠0):laid1 g (ps.take i) (ps.drop i)=addE g (ps.take i) p:=by
 rw [zcI h,laid1,if_neg a]
theorem zii {g:List (Int×Int)} {ps:List Pl} {i:Nat} {p:Pl} (h:ps[i]?=V p) (a:clearB g (ps.take i) p=true):laid2 g (ps.take i) (ps.drop i)=laid2 g (ps.take (i+1)) (ps.drop (i+1)):=by
 rw [zcI h,zab _ _ _ h,laid2,if_pos a]
theorem zij {g:List (Int×Int)} {ps:List Pl} {i:Nat} {p:Pl} (h:ps[i]?=V p) (a:clearB g (ps.take i) p=false):laid2 g (ps.take i) (ps.drop i)=12:=by
 rw [zcI h,laid2,a];rfl
def OwnLa (w:Y) (base:Nat) (v:Z) (ps:List Pl):Prop:=∃cs,OwnC 101 12 w base v cs∧cs.length=ps.length∧∀(i:Nat) c p,cs[i]?=V c→ps[i]?=V p→PLa w c p
theorem OwnLa.las {w:Y} {base:Nat} {v:Z} {ps:List Pl} (h:OwnLa w base v ps):IsLas w v ps:=by
 obtain⟨d,a,b,c⟩:=h;exact a.sl b c
theorem OwnLa.ext {w w':Y} {base:Nat} {v:Z} {ps:List Pl} (h:OwnLa w base v ps) (k:Ext w w'):OwnLa w' base v ps:=by
 obtain⟨a,b,d,e⟩:=h;exact⟨a,b.ext k,d,fun i c p f g=>(e i c p f g).ext k⟩
theorem OwnLa.nil (w:Y) (base:Nat):OwnLa w base (O X 0 0) []:=⟨[],OwnC.nil _ _ _ _,rfl,fun i c p a=>by simp at a⟩
theorem OwnLa.form3 {w:Y} {base:Nat} {v:Z} {ps:List Pl} (h:OwnLa w base v ps):∃a n c,v=O a n c:=by obtain⟨d,b,_⟩:=h;exact b.form3
theorem OwnLa.setOther {w:Y} {base:Nat} {v:Z} {ps:List Pl} {q:Addr} (h:OwnLa w base v ps) (j:v.ownBlock≠V q.block) (g:NoT 33 w q.block) (u:Z):OwnLa (w.setCell q u) base v ps:=by
 obtain⟨a,b,d,e⟩:=h;exact⟨a,b.setOther j u,d,fun i c p f k=>(e i c p f k).keep ((KeepT.refl _ w).setN g u)⟩
theorem OwnLa.lt {w:Y} {base:Nat} {v:Z} {ps:List Pl} (h:OwnLa w base v ps):∀j,v.ownBlock=V j→base≤j∧j<w.heap.size:=by obtain⟨b,a,_⟩:=h;exact a.lt
theorem OwnLa.app {wr e:Y} {base:Nat} {j:Z} {ps:List Pl} {cs:List (List Z)} {d:List Z} {p:Pl} (h:OwnC 101 12 e base j (cs++[d])) (f:cs.length=ps.length)
  (g:∀(i:Nat) c p,cs[i]?=V c→ps[i]?=V p→PLa wr c p) (m:KeepT 33 wr e) (k:PLa e d p):OwnLa e base j (ps++[p]):=by
 refine⟨cs++[d],h,by simp [f],fun i c x a b=>?_⟩
 by_cases l:i<cs.length
 ·rw [List.getElem?_append_left l]at a
  rw [List.getElem?_append_left oM]at b;exact(g i c x a b).keep m
 ·rw [List.getElem?_append_right oM]at a b
  have o:=(lS.1 a).1;simp at o;have:i-cs.length=0:=oM
  rw [this]at a;rw [show i-ps.length=0 by omega]at b;simp at a b;subst a b;exact k
theorem zmU:(Tryz.prog.info? 101).map (fun i=>(i.zero,i.size,i.bytes))=V (V (N la0),12,152):=kM
theorem zdw (W:Y) (cs:Array Z) (T:TypeId):∀(j:Nat) u,[cs.toList].flatten[j]?=V u→(W.alloc (M cs T)).cell? ((⟨W.heap.size,0,X⟩:Addr).add j)=V u:=by
 intro j u a;rw [List.flatten_cons,List.flatten_nil,List.append_nil,Array.getElem?_toList]at a;have e:=qcB (aN W (M cs T)) a;unfold Addr.add
 split
 ·subst j;exact e
 ·rw [show (⟨W.heap.size,0,X⟩:Addr).off+j=j by simp];exact e
def PPl (w:Y) (c:List Z) (p:Pl):Prop:=∃v,c=(plc p v).toList∧IsPts w v p.shape∧0≤p.skin
theorem PPl.ext {w w':Y} {c:List Z} {p:Pl} (h:PPl w c p) (k:Ext w w'):PPl w' c p:=by
 obtain⟨v,a,b,d⟩:=h;exact⟨v,a,b.ext' k,d⟩
abbrev IsPls (w:Y) (v:Z) (ps:List Pl):Prop:=Sl 37 10 PPl w v ps
theorem IsPls.ext' {w w':Y} {v:Z} {ps:List Pl} (h:IsPls w v ps) (k:Ext w w'):IsPls w' v ps:=Sl.ext h (fun _ _ h=>PPl.ext h k) k
theorem IsPls.at' {w:Y} {a:Option Addr} {n c:Nat} {ps:List Pl} (h:IsPls w (O a n c) ps) {i:Nat} {p:Pl} (m:ps[i]?=V p) :
  ∃b o v,a=V ⟨b,o,X⟩∧b<w.heap.size∧IsPts w v p.shape∧0≤p.skin∧∀(j:Nat) u,(plc p v)[j]?=V u→w.cell? ⟨b,o+i*10+j,X⟩=V u:=by
 obtain⟨b,o,d,rfl,g,q,⟨v,rfl,e,f⟩,k⟩:=Sl.at h m;exact⟨b,o,v,rfl,g,e,f,fun j u l=>k j u (by rw [Array.getElem?_toList];exact l)⟩
def site0:Z:=N #[O X 0 0,O X 0 0]
def RetLo (w:Y) (a:Z) (g:List (Int×Int)) (ps:List Pl) (e:Ending) (w':Y):Prop:=
 (laidP g ps≠0∧e = .returned (L #[site0,I J (laidP g ps)])∧Ext w w')∨(laidP g ps=0∧∃vs,e = .returned (L #[N #[a,vs],I J 0])∧IsLas w' vs ps∧Ext w w')
def LoC (w:Y) (b:Nat) (a c d:Z) (W:Y):Prop:=
 W.heap[w.heap.size]?=V (M #[a,c] 50 (0,0))∧W.heap[w.heap.size+1]?=V (M #[O X 0 0,O X 0 0] 108 (0,0))∧W.heap[b]?=V (M #[a,d] 108 (0,0))
theorem LoC.ext {w W W':Y} {a:Nat} {b c d:Z} (h:LoC w a b c d W) (k:Ext W W'):LoC w a b c d W':=⟨k.heapS h.1,k.heapS h.2.1,k.heapS h.2.2⟩
theorem LoC.below {w W W':Y} {a:Nat} {b c d:Z} (h:LoC w a b c d W) (k:Below (a+1) W W') (i:w.heap.size+1<a):LoC w a b c d W':=by
 obtain⟨e,f,g⟩:=h;exact⟨(k.block _ oM).trans e,(k.block _ oM).trans f,(k.block _ oM).trans g⟩
theorem LoC.put {w W:Y} {a:Nat} {b c g:Z} (h:LoC w a b c g W) (i:w.heap.size+1<a) (v:Z):LoC w a b c v (W.setCell ⟨a,1,X⟩ v):=by
 obtain⟨d,e,f⟩:=h;refine⟨?_,?_,?_⟩
 ·rw [bS _ _ _ _ dO];exact d
 ·rw [bS _ _ _ _ dO];exact e
 ·simp [World.setCell,Array.getElem?_modify,f]
def LoS (w:Y) (a:Nat) (d e:Z) (g:List (Int×Int)) (ps:List Pl) (c:Nat) (t28:Z) (W:Y):Prop:=
 ∃(i:Nat) (b:Z),i≤ps.length∧t28=I J i∧c=ps.length-i∧Ext w W∧a+1≤W.heap.size∧LoC w a d e b W∧OwnLa W (a+1) b (ps.take i)∧laid1 g [] ps=laid1 g (ps.take i) (ps.drop i)∧∀p∈ps.take i,placedOk p=true
def LpS (w:Y) (b:Nat) (e f:Z) (c:Z) (g:List (Int×Int)) (ps:List Pl) (d:Nat) (a:Z) (W:Y):Prop:=
 ∃i:Nat,i≤ps.length∧a=I J i∧d=ps.length-i∧Ext w W∧b+1≤W.heap.size∧LoC w b e f c W∧IsLas W c ps∧laid2 g [] ps=laid2 g (ps.take i) (ps.drop i)
theorem Ext.isPts {w w':Y} {v:Z} {ps:List (Int×Int)} (h:IsPts w v ps) (k:Ext w w'):IsPts w' v ps:=h.ext' k
theorem zbN (w:Y) (vg vp:Z) (g:List (Int×Int)) (ps:List Pl) (hg:IsPts w vg g) (hp:IsPls w vp ps) (bo:Gw w) :
  Calls Tryz.prog 44 #[N #[vg,vp]] w (RetLo w vg g ps):=by
 have HG:=hd9 (fun(W:Y) (hW:Ext w W)=>zib W vg g (hg.ext' hW));have ba:=hd9 (fun(W:Y) (hW:Ext w W)=>hg.ext' hW);have bV:=hd9 (fun(W:Y) (hW:Ext w W)=>hp.ext' hW);have bO:=hd9 bo;obtain⟨ga,gn,gc,rfl⟩:=form3 hg;obtain⟨pa,pn,aY,rfl⟩:=form3 hp;have bq:=hp.len;have br:=hp.le;obtain⟨R,hR⟩:=gX (RetLo w (O ga gn gc) g ps);rw [hR];have HR:=hd9 hR;have Hn:=hd9 bq.symm;have cq:pn≤9223372036854775807:=by unfold maxLen at br;omega
 clear hg hp bo bq br hR;obtain⟨G,hG⟩:=gX (groundB g);have aw:=hd9 hG;rw [hG]at HG;clear hG
 cases G with
 | false =>
  have e:laidP g ps=2:=by unfold laidP;rw [aw.out];rfl
  have E:=hd9 e;clear e;go_enter Tryz.func44,Tryz.ntmps44
  go_wp2_with(go_at_call 97;(with_reducible refine(HG.out _ ?_).mono ?_);exact eA;rintro e w3 ⟨rfl,ab⟩;obtain⟨ay,aB⟩:=ab.cells;have z3:=ab.size;simp only [wZ]at z3)
  have bw:w.heap.size<w3.heap.size:=oM
  have bx:w.heap.size+1<w3.heap.size:=oM
  refine bR (v:=L #[N #[O X 0 0,O X 0 0],I J 2]) (by simp [results,Tryz.results44,go_sem,ay,aB]) rfl ?_;rw [←HR.out];exact .inl ⟨by rw [E.out];decide,by rw [E.out];rfl,eA⟩
 | true =>
  by_cases hn:120<pn
  ·have e:laidP g ps=5:=by unfold laidP;rw [aw.out,if_pos rfl,if_pos (by rw [Hn.out];exact hn)]
   have E:=hd9 e;have cd:(120:Int)<(pn:Int):=oM
   clear e hn;go_enter Tryz.func44,Tryz.ntmps44
   go_wp2_with(go_at_call 97;(with_reducible refine(HG.out _ ?_).mono ?_);exact eA;rintro e w3 ⟨rfl,ab⟩;obtain⟨ay,aB⟩:=ab.cells;have z3:=ab.size;simp only [wZ]at z3)
   have bw:w.heap.size<w3.heap.size:=oM
   have bx:w.heap.size+1<w3.heap.size:=oM
   refine bR (v:=L #[N #[O X 0 0,O X 0 0],I J 5]) (by simp [results,Tryz.results44,go_sem,ay,aB]) rfl ?_;rw [←HR.out];exact .inl ⟨by rw [E.out];decide,by rw [E.out];rfl,eA⟩
  have e:laidP g ps=if laid1 g [] ps=0 then laid2 g [] ps else laid1 g [] ps:=by unfold laidP;rw [aw.out,if_pos rfl,if_neg (by rw [Hn.out];exact hn)]
  have E:=hd9 e;have cd:¬(120:Int)<(pn:Int):=oM
  clear e;go_enter Tryz.func44,Tryz.ntmps44
  go_wp2_with(go_at_call 97;(with_reducible refine(HG.out _ ?_).mono ?_);exact eA;rintro e w3 ⟨rfl,ab⟩;obtain⟨ay,aB⟩:=ab.cells;have z3:=ab.size;simp only [wZ]at z3;have bw:w.heap.size<w3.heap.size:=oM;have bx:w.heap.size+1<w3.heap.size:=oM)
  obtain⟨a,aR⟩:=gX w3.heap.size;have bW:=hd9 (show (w3.alloc (M #[O ga gn gc,O X 0 0] 108)).heap.size=a+1 by simp [aR]);have Hz:=hd9 (show w.heap.size+1<a by omega)
  have hC:LoC w a (O ga gn gc) (O pa pn aY) (O X 0 0) (w3.alloc (M #[O ga gn gc,O X 0 0] 108)):=by
   have y:=(eR w3).alloc (M #[O ga gn gc,O X 0 0] 108);refine⟨y.heapS (ab.heapS ?_),y.heapS (ab.heapS (qhA _ _ _ sM)),qhA _ _ _ aR.symm⟩;rw [zai,if_neg sM];exact qhA _ _ _ rfl
  have bf:Ext w w3:=eA;rw [aR]at *;clear ay aB ab
  go_loopg [28] pn (LoS w a (O ga gn gc) (O pa pn aY) g ps)
  case atStart =>
   exact⟨0,_,by omega,rfl,by rw [Hn.out];rfl,bf.alloc _,by rw [bW.out];omega,hC,OwnLa.nil _ _,by simp,fun p h=>by simp at h⟩
  case round =>
   clear hC bf;obtain⟨i,vs,hi,rfl,rfl,hx,aS,hC,f,s,am⟩:=hrel;rw [Hn.out]at hi;obtain⟨va,vn,vc,rfl⟩:=f.form3;have HC:=hd9 hC;have a8:=hd9 f;have Hx:=hd9 hx;have bU:=hd9 am;have bP:=hd9 s;have k0:=qcB hC.2.1 (i:=0) (u:=O X 0 0) rfl;have k1:=qcB hC.2.1 (i:=1) (u:=O X 0 0) rfl;have kf:=qfB hC.2.1;have m0:=qcB hC.2.2 (i:=0) (u:=O ga gn gc) rfl;have m1:=qcB hC.2.2 (i:=1) (u:=O va vn vc) rfl;have mf:=qfB hC.2.2;have zb:a<wr.heap.size:=oM
   have zw:w.heap.size+1<wr.heap.size:=by have:=Hz.out;omega
   by_cases aH:i<pn
   ·obtain⟨p,hq⟩:∃q,ps[i]?=V q:=⟨ps[i]'(by rw [Hn.out];omega),by simp [Hn.out,aH]⟩
    obtain⟨b,o,v,rfl,hb,d1,dk,r⟩:=(bV.out _ hx).at' hq;have aF:=hd9 d1;have au:=hd9 (fun W (hW:Ext wr W)=>zaD W p v (d1.ext' hW) dk);have aO:=hd9 (fun W (hW:Ext wr W) (h:placedOk p=true)=>za9 W p v (d1.ext' hW) h (bO.out.ext (hx.trans hW)));obtain⟨aj,al,ak,rfl⟩:=form3 d1;have Hq:=hd9 hq;obtain⟨ok,f1⟩:=gX (placedOk p);have F1:=hd9 f1;rw [f1]at au;have aQ:=r 0 (.string p.name) rfl;have bX:=r 1 (O aj al ak) rfl;have bY:=r 2 (I J p.depth) rfl;have bZ:=r 3 (I J p.density) rfl;have b0:=r 4 (I J p.gx) rfl;have b1:=r 5 (I J p.gz) rfl;have b2:=r 6 (I J p.way) rfl;have b3:=r 7 (I J p.ax) rfl;have b5:=r 8 (I J p.az) rfl;have b6:=r 9 (I .u8 p.skin) rfl;simp only [Nat.add_zero]at aQ;have cr:a<wr.heap.size+1:=oM
    have ct:w.heap.size+1<wr.heap.size+1:=oM
    obtain⟨er,hE⟩:=gX (addE g (ps.take i) p);have aa:=hE;unfold addE at aa;unfold plc at au aO
    cases ok with
    | false =>
     have e:laidP g ps=2:=by
      have h2:addE g (ps.take i) p=2:=by unfold addE;rw [f1];rfl
      have h1:laid1 g [] ps=2:=by rw [s,zdd hq (by rw [h2];decide),h2]
      rw [E.out,h1];rfl
     have E2:=hd9 e;clear e hE aa hq r f1 d1 hC s am f E
     go_wp2_with(go_at_call 45;(with_reducible refine(au.out _ ?_).mono ?_);exact eA;rintro e l ⟨rfl,x⟩;obtain⟨aU,aX⟩:=x.cells;(have z5:=x.size);(try simp only [wZ,qdZ]at z5);(have aZ:a<l.heap.size:=oM);(have a4:w.heap.size+1<l.heap.size:=oM);(have a3:w.heap.size+1<l.heap.size+1:=oM);(have a0:a<l.heap.size+1:=oM);(have a1:wr.heap.size<l.heap.size:=oM);(have a2:wr.heap.size<l.heap.size+1:=oM))
     have X5:Ext wr l:=eA;have K5:=X5.heapS HC.out.2.1;have x0:=qcB K5 (i:=0) (u:=O X 0 0) rfl;have x1:=qcB K5 (i:=1) (u:=O X 0 0) rfl;have xf:=qfB K5;refine bR (v:=L #[N #[O X 0 0,O X 0 0],I J 2]) (by simp [results,Tryz.results44,go_sem,x0,x1,xf]) rfl ?_;rw [←HR.out];exact .inl ⟨by rw [E2.out];decide,by rw [E2.out];rfl,eA⟩
    | true =>
     rw [f1,if_pos rfl]at aa
     have aA:∀q∈ps.take i++[p],placedOk q=true:=fun q hq=>by
      rcases List.mem_append.1 hq with h|h
      ·exact am q h
      ·rw [List.mem_singleton.1 h];exact f1
     have HO:=hd9 (fun W (hW:Ext wr W)=>aO.out W hW f1);have HH:=hd9 (fun(W:Y) (hW:Ext wr W) (bv:Z) (h2:IsLa W bv p)=>zdW W (O ga gn gc) (O va vn vc) bv g p (ba.out _ (hx.trans hW)) ⟨_,_,_,rfl⟩ h2 (zbC aw.out) f1);have HN:=hd9 (fun(W:Y) (hW:Ext wr W)=>zbz W (O ga gn gc) (O va vn vc) (ps.take i) p.name ⟨_,_,_,rfl⟩ (f.las.ext' hW));obtain⟨bh,f2⟩:=gX (holdsB g p);obtain⟨bn,f3⟩:=gX ((ps.take i).any (nameB p.name));rw [f2]at HH aa;rw [f3]at HN aa;have aP:=hd9 aA;clear aA aO
     cases bh with
     | false =>
      have e:laidP g ps=2:=by
       have h2:addE g (ps.take i) p=2:=by rw [hE,←aa];rfl
       have h1:laid1 g [] ps=2:=by rw [s,zdd hq (by rw [h2];decide),h2]
       rw [E.out,h1];rfl
      have E2:=hd9 e;clear e hE aa hq r f1 f2 f3 d1 hC s am f E
      go_wp2_with(first|(go_at_call 45;(with_reducible refine(au.out _ ?_).mono ?_);exact eA;rintro e l ⟨rfl,x⟩;obtain⟨aU,aX⟩:=x.cells;(have z5:=x.size);(try simp only [wZ,qdZ]at z5);(have aZ:a<l.heap.size:=oM);(have a4:w.heap.size+1<l.heap.size:=oM);(have a3:w.heap.size+1<l.heap.size+1:=oM);(have a0:a<l.heap.size+1:=oM);(have a1:wr.heap.size<l.heap.size:=oM);(have a2:wr.heap.size<l.heap.size+1:=oM))|(go_at_call 46;(with_reducible refine(HO.out _ ?_).mono ?_);exact eA;rintro e D ⟨vl,vu,rfl,an,ao,ap⟩;obtain⟨ac,af,ae,rfl⟩:=form3 an;obtain⟨ag,ai,ah,rfl⟩:=form3 ao;obtain⟨bi,bl⟩:=ap.cells;(have z6:=ap.size);(try simp only [wZ,qdZ]at z6);(have bz:a<D.heap.size:=oM);(have bJ:w.heap.size+1<D.heap.size:=oM);(have bH:w.heap.size+1<D.heap.size+1:=oM);(have bB:a<D.heap.size+1:=oM);(have bD:wr.heap.size<D.heap.size:=oM);(have bF:wr.heap.size<D.heap.size+1:=oM);try unfold lac)|(go_at_call 47;(with_reducible refine(HH.out _ ?_ _ ?_).mono ?_);exact eA;(exact⟨_,_,_,rfl,Ext.isPts (w:=wr) aF.out eA,an.ext' eA,ao.ext' eA⟩);rintro e w7 ⟨rfl,aq⟩;obtain⟨bj,bm⟩:=aq.cells;(have z7:=aq.size);(try simp only [wZ,qdZ]at z7);(have bA:a<w7.heap.size:=oM);(have bK:w.heap.size+1<w7.heap.size:=oM);(have bI:w.heap.size+1<w7.heap.size+1:=oM);(have bC:a<w7.heap.size+1:=oM);(have bE:wr.heap.size<w7.heap.size:=oM);(have bG:wr.heap.size<w7.heap.size+1:=oM);(have bL:D.heap.size<w7.heap.size:=oM)))
      have X7:Ext wr w7:=eA;have K7:=X7.heapS HC.out.2.1;have x0:=qcB K7 (i:=0) (u:=O X 0 0) rfl;have x1:=qcB K7 (i:=1) (u:=O X 0 0) rfl;have xf:=qfB K7;refine bR (v:=L #[N #[O X 0 0,O X 0 0],I J 2]) (by simp [results,Tryz.results44,go_sem,x0,x1,xf]) rfl ?_;rw [←HR.out];exact .inl ⟨by rw [E2.out];decide,by rw [E2.out];rfl,eA⟩
     | true =>
      cases bn with
      | true =>
       have e:laidP g ps=7:=by
        have h2:addE g (ps.take i) p=7:=by rw [hE,←aa];rfl
        have h1:laid1 g [] ps=7:=by rw [s,zdd hq (by rw [h2];decide),h2]
        rw [E.out,h1];rfl
       have E2:=hd9 e;clear e hE aa hq r f1 f2 f3 d1 hC s am f E
       go_wp2_with(first|(go_at_call 45;(with_reducible refine(au.out _ ?_).mono ?_);exact eA;rintro e l ⟨rfl,x⟩;obtain⟨aU,aX⟩:=x.cells;(have z5:=x.size);(try simp only [wZ,qdZ]at z5);(have aZ:a<l.heap.size:=oM);(have a4:w.heap.size+1<l.heap.size:=oM);(have a3:w.heap.size+1<l.heap.size+1:=oM);(have a0:a<l.heap.size+1:=oM);(have a1:wr.heap.size<l.heap.size:=oM);(have a2:wr.heap.size<l.heap.size+1:=oM))|(go_at_call 46;(with_reducible refine(HO.out _ ?_).mono ?_);exact eA;rintro e D ⟨vl,vu,rfl,an,ao,ap⟩;obtain⟨ac,af,ae,rfl⟩:=form3 an;obtain⟨ag,ai,ah,rfl⟩:=form3 ao;obtain⟨bi,bl⟩:=ap.cells;(have z6:=ap.size);(try simp only [wZ,qdZ]at z6);(have bz:a<D.heap.size:=oM);(have bJ:w.heap.size+1<D.heap.size:=oM);(have bH:w.heap.size+1<D.heap.size+1:=oM);(have bB:a<D.heap.size+1:=oM);(have bD:wr.heap.size<D.heap.size:=oM);(have bF:wr.heap.size<D.heap.size+1:=oM);try unfold lac)|(go_at_call 47;(with_reducible refine(HH.out _ ?_ _ ?_).mono ?_);exact eA;(exact⟨_,_,_,rfl,Ext.isPts (w:=wr) aF.out eA,an.ext' eA,ao.ext' eA⟩);rintro e w7 ⟨rfl,aq⟩;obtain⟨bj,bm⟩:=aq.cells;(have z7:=aq.size);(try simp only [wZ,qdZ]at z7);(have bA:a<w7.heap.size:=oM);(have bK:w.heap.size+1<w7.heap.size:=oM);(have bI:w.heap.size+1<w7.heap.size+1:=oM);(have bC:a<w7.heap.size+1:=oM);(have bE:wr.heap.size<w7.heap.size:=oM);(have bG:wr.heap.size<w7.heap.size+1:=oM);(have bL:D.heap.size<w7.heap.size:=oM))|(go_at_call 48;(with_reducible refine(HN.out _ ?_).mono ?_);exact eA;rintro e w8 ⟨rfl,aE⟩;obtain⟨ca,cc⟩:=aE.cells;(have z8:=aE.size);(try simp only [wZ,qdZ]at z8);(have ce:a<w8.heap.size:=oM);(have cj:w.heap.size+1<w8.heap.size:=oM);(have ci:w.heap.size+1<w8.heap.size+1:=oM);(have cf:a<w8.heap.size+1:=oM);(have cg:wr.heap.size<w8.heap.size:=oM);(have ch:wr.heap.size<w8.heap.size+1:=oM);(have ck:D.heap.size<w8.heap.size:=oM)))
       have X8:Ext wr w8:=eA;have K8:=X8.heapS HC.out.2.1;have x0:=qcB K8 (i:=0) (u:=O X 0 0) rfl;have x1:=qcB K8 (i:=1) (u:=O X 0 0) rfl;have xf:=qfB K8;refine bR (v:=L #[N #[O X 0 0,O X 0 0],I J 7]) (by simp [results,Tryz.results44,go_sem,x0,x1,xf]) rfl ?_;rw [←HR.out];exact .inl ⟨by rw [E2.out];decide,by rw [E2.out];rfl,eA⟩
      | false =>
       have h2:addE g (ps.take i) p=0:=by rw [hE,←aa];rfl
       have e:=s.trans (zih hq h2);have E2:=hd9 e;have bt:ps.take (i+1)=ps.take i++[p]:=zab _ _ _ hq;have bb:=hd9 bt;obtain⟨cs,aW,aV,bk⟩:=f;have a5:=hd9 aW;have bN:=hd9 bk;have bM:=hd9 aV;have bQ:=hd9 (show cs.length≤120 by rw [aV];simp;omega);have bT:=hd9 (fun j (h:(Value.slice va vn vc).ownBlock=V j)=>aW.lt j h);clear e hE aa hq r f1 f2 f3 d1 hC s am E h2 bt aW aV bk
       go_wp2_with(first|(go_at_call 45;(with_reducible refine(au.out _ ?_).mono ?_);exact eA;rintro e l ⟨rfl,x⟩;obtain⟨aU,aX⟩:=x.cells;(have z5:=x.size);(try simp only [wZ,qdZ]at z5);(have aZ:a<l.heap.size:=oM);(have a4:w.heap.size+1<l.heap.size:=oM);(have a3:w.heap.size+1<l.heap.size+1:=oM);(have a0:a<l.heap.size+1:=oM);(have a1:wr.heap.size<l.heap.size:=oM);(have a2:wr.heap.size<l.heap.size+1:=oM))|(go_at_call 46;(with_reducible refine(HO.out _ ?_).mono ?_);exact eA;rintro e D ⟨vl,vu,rfl,an,ao,ap⟩;obtain⟨ac,af,ae,rfl⟩:=form3 an;obtain⟨ag,ai,ah,rfl⟩:=form3 ao;obtain⟨bi,bl⟩:=ap.cells;(have z6:=ap.size);(try simp only [wZ,qdZ]at z6);(have bz:a<D.heap.size:=oM);(have bJ:w.heap.size+1<D.heap.size:=oM);(have bH:w.heap.size+1<D.heap.size+1:=oM);(have bB:a<D.heap.size+1:=oM);(have bD:wr.heap.size<D.heap.size:=oM);(have bF:wr.heap.size<D.heap.size+1:=oM);try unfold lac)|(go_at_call 47;(with_reducible refine(HH.out _ ?_ _ ?_).mono ?_);exact eA;(exact⟨_,_,_,rfl,Ext.isPts (w:=wr) aF.out eA,an.ext' eA,ao.ext' eA⟩);rintro e w7 ⟨rfl,aq⟩;obtain⟨bj,bm⟩:=aq.cells;(have z7:=aq.size);(try simp only [wZ,qdZ]at z7);(have bA:a<w7.heap.size:=oM);(have bK:w.heap.size+1<w7.heap.size:=oM);(have bI:w.heap.size+1<w7.heap.size+1:=oM);(have bC:a<w7.heap.size+1:=oM);(have bE:wr.heap.size<w7.heap.size:=oM);(have bG:wr.heap.size<w7.heap.size+1:=oM);(have bL:D.heap.size<w7.heap.size:=oM))|(go_at_call 48;(with_reducible refine(HN.out _ ?_).mono ?_);exact eA;rintro e w8 ⟨rfl,aE⟩;obtain⟨ca,cc⟩:=aE.cells;(have z8:=aE.size);(try simp only [wZ,qdZ]at z8);(have ce:a<w8.heap.size:=oM);(have cj:w.heap.size+1<w8.heap.size:=oM);(have ci:w.heap.size+1<w8.heap.size+1:=oM);(have cf:a<w8.heap.size+1:=oM);(have cg:wr.heap.size<w8.heap.size:=oM);(have ch:wr.heap.size<w8.heap.size+1:=oM);(have ck:D.heap.size<w8.heap.size:=oM))|(at_builtin;refine appC (T:=101) (t:=106) (z:=N la0) (k:=12) (bytes:=152) (base:=a+1) (v:=O va vn vc) (cs:=cs) (m:=1) (c:=1) (ad:=⟨w8.heap.size,0,X⟩) zmU rfl dM dM Tryz.underlying106 rfl _ _ rfl rfl (a5.out.ext eA) rfl [(lac p (O aj al ak) (O ac af ae) (O ag ai ah)).toList] rfl (by simp [lac]) (by exact zdw w8 (lac p (O aj al ak) (O ac af ae) (O ag ai ah)) 101) (by simp [lac,Value.oneCell']) (by have:=bQ.out;omega) (by simp only [wZ];omega) ?_;intro v' w9 aD ar cn;obtain⟨a9,n9,c9,rfl⟩:=aD.form3;(have av:Ext wr (w8.alloc (M (lac p (O aj al ak) (O ac af ae) (O ag ai ah)) 101)):=eA);(have hK:=av.heapS HC.out.2.2);(have hM:w9.heap[a]?=V (M #[O ga gn gc,O va vn vc] 108 (0,0)):=zaj ar hK (fun e=>by have:=(bT.out _ e.symm).1;omega));(have n1:=qcB hM (i:=1) (u:=O va vn vc) rfl);(have nf:=qfB hM)))
       go_roundg (pn-(i+1))
       case measure=>have:=Hn.out;omega
       case rel =>
        have be:=a5.out.ext av;have bg:a+1≤(w8.alloc (M (lac p (O aj al ak) (O ac af ae) (O ag ai ah)) 101)).heap.size:=by simp only [wZ];omega
        have aT:=zah (base:=a+1) ar bg (fun k hk=>(be.lt k hk).1);have aG:=be.keepT (T':=33) dM ar;have b9:Ext w (w8.alloc (M (lac p (O aj al ak) (O ac af ae) (O ag ai ah)) 101)):=Hx.out.trans av;have hz:=Hz.out;have b8:Ext w w9:=b9.thenB aT oM;have b7:LoC w a _ _ _ w9:=(HC.out.ext av).below aT hz;have aL:Ext D (w8.alloc (M (lac p (O aj al ak) (O ac af ae) (O ag ai ah)) 101)):=eA;have bd:OwnLa w9 (a+1) (O a9 n9 c9) (ps.take i++[p]):=OwnLa.app aD bM.out bN.out (av.keep.trans aG) ⟨_,_,_,rfl,((aF.out.ext' av).keep' aG),((an.ext' aL).keep' aG),((ao.ext' aL).keep' aG)⟩;refine⟨i+1,O a9 n9 c9,by rw [Hn.out];omega,by go_num,by rw [Hn.out],b8.set dO _,by rw [qcZ];exact nT bg aT.size,b7.put hz _,?_,E2.out,by rw [bb.out];exact aP.out⟩;rw [bb.out];exact bd.setOther (fun e=>by have:=(bd.lt _ e).1;dsimp only at this;omega) (fun cs fr h=>by rw [hM]at h;cases h) _
   ·obtain rfl:i=pn:=oM
    have e1:ps.take i=ps:=lT (by rw [Hn.out];exact nE _);have e2:ps.drop i=[]:=List.drop_of_length_le (by rw [Hn.out];exact nE _);rw [e1]at am f s;rw [e2,show laid1 g ps []=0 from rfl]at s;have hE:=E.out;rw [if_pos s]at hE;have E3:=hd9 hE;have aJ:=hd9 am;have d:=f.las;have aK:=d.len;rw [Hn.out]at aK;subst aK;have aI:=d.le;rw [Hn.out]at aI;have co:vn≤vc:=aI.1;have cp:vc≤9223372036854775807:=by have:=aI.2;unfold maxLen at this;omega
    clear e1 e2 s hE f a8 bU bP E am aI;go_wp2
    go_loopg [59] vn (LpS w a (O ga gn gc) (O pa vn aY) (O va vn vc) g ps)
    case atStart=>exact⟨0,by omega,rfl,by rw [Hn.out];rfl,Hx.out,by omega,HC.out,d,by simp⟩
    case round =>
     clear d hC HC Hx hx k0 k1 kf m0 m1 mf aS zb zw aH hi;obtain⟨i,hi,rfl,rfl,hx,aS,hC,d,aC⟩:=hrel;rw [Hn.out]at hi;have HC:=hd9 hC;have Hx:=hd9 hx;have k0:=qcB hC.2.1 (i:=0) (u:=O X 0 0) rfl;have k1:=qcB hC.2.1 (i:=1) (u:=O X 0 0) rfl;have kf:=qfB hC.2.1;have m0:=qcB hC.2.2 (i:=0) (u:=O ga gn gc) rfl;have m1:=qcB hC.2.2 (i:=1) (u:=O va vn vc) rfl;have mf:=qfB hC.2.2;have zb:a<wr.heap.size:=oM
     have zw:w.heap.size+1<wr.heap.size:=by have:=Hz.out;omega
     by_cases aH:i<vn
     ·obtain⟨p,hq⟩:∃q,ps[i]?=V q:=⟨ps[i]'(by rw [Hn.out];omega),by simp [Hn.out,aH]⟩
      obtain⟨b,o,s1,l1,u1,rfl,hb,d1,d2,d3,r⟩:=d.at' hq;have bu:IsLas wr (O (V ⟨b,o,X⟩) i vc) (ps.take i):=d.take (by rw [Hn.out];omega) (by rw [Hn.out];omega) oM (nE _);have bp:=aJ.out p (lM hq);have aM:=hd9 (fun W (hW:Ext wr W)=>zdI W (O ga gn gc) (O (V ⟨b,o,X⟩) i vc) (N (lac p s1 l1 u1)) g (ps.take i) p (ba.out _ (hx.trans hW)) (bu.ext' hW) ⟨_,_,_,rfl,d1.ext' hW,d2.ext' hW,d3.ext' hW⟩ (zbC aw.out) (fun q h=>aJ.out q (List.mem_of_mem_take h)) bp);obtain⟨aj,al,ak,rfl⟩:=form3 d1;obtain⟨ac,af,ae,rfl⟩:=form3 d2;obtain⟨ag,ai,ah,rfl⟩:=form3 d3;obtain⟨cb,f1⟩:=gX (clearB g (ps.take i) p);rw [f1]at aM;unfold lac at aM;have aQ:=r 0 (.string p.name) rfl;have bX:=r 1 (O aj al ak) rfl;have bY:=r 2 (I J p.depth) rfl;have bZ:=r 3 (I J p.density) rfl;have b0:=r 4 (I J p.gx) rfl;have b1:=r 5 (I J p.gz) rfl;have b2:=r 6 (I J p.way) rfl;have b3:=r 7 (I J p.ax) rfl;have b5:=r 8 (I J p.az) rfl;have b6:=r 9 (I .u8 p.skin) rfl;have cl:=r 10 (O ac af ae) rfl;have cm:=r 11 (O ag ai ah) rfl;simp only [Nat.add_zero]at aQ;have Hq:=hd9 hq;have a6:=hd9 aC;have F1:=hd9 f1;have a7:=hd9 d;have p0:(0:Int)≤(i:Int):=oM
      have p1:(i:Int)≤(vc:Int):=oM
      have p2:i≤vc:=oM
      clear r hq aC f1 d bu bp d1 d2 d3 hC hx;go_wp2;refine wp_region_held_drew (S:=CellL [(⟨a,0,X⟩,O ga gn gc),(⟨a,1,X⟩,O (V ⟨b,o,X⟩) vn vc),(⟨wr.heap.size,0,X⟩,.string p.name),(⟨wr.heap.size,1,X⟩,O aj al ak),(⟨wr.heap.size,2,X⟩,I J p.depth),(⟨wr.heap.size,3,X⟩,I J p.density),(⟨wr.heap.size,4,X⟩,I J p.gx),(⟨wr.heap.size,5,X⟩,I J p.gz),(⟨wr.heap.size,6,X⟩,I J p.way),(⟨wr.heap.size,7,X⟩,I J p.ax),(⟨wr.heap.size,8,X⟩,I J p.az),(⟨wr.heap.size,9,X⟩,I .u8 p.skin),(⟨wr.heap.size,10,X⟩,O ac af ae),(⟨wr.heap.size,11,X⟩,O ag ai ah)]) kM cA (fun bc=>?_);refine sN 0 ?_
      iterate 8
       refine tkn ?_
      refine oN ?_;refine cl1 (i:=8) fun K hK=>?_
      go_simp
      (with_reducible refine cM (aM.out _ eA) ?_)
      rintro e l ⟨rfl,x⟩
      skip
      go_wp2_with fail
      refine kO hK (cE bc x) (fun bc=>?_);clear hK K;refine tk1 (i:=9) ?_;refine wpAnyH_done kM ?_ _;have X5:Ext wr l:=eA;have K5:=X5.heapS HC.out.2.1;have y0:=qcB K5 (i:=0) (u:=O X 0 0) rfl;have y1:=qcB K5 (i:=1) (u:=O X 0 0) rfl;have yf:=qfB K5
      cases cb with
      | false =>
       have e:laidP g ps=12:=by rw [E3.out,a6.out,zij Hq.out F1.out]
       have E2:=hd9 e;clear e;have hx:=Hx.out;go_wp2;have X5:Ext wr l:=eA;have K5:=X5.heapS HC.out.2.1;have x0:=qcB K5 (i:=0) (u:=O X 0 0) rfl;have x1:=qcB K5 (i:=1) (u:=O X 0 0) rfl;have xf:=qfB K5;refine bR (v:=L #[N #[O X 0 0,O X 0 0],I J 12]) (by simp [results,Tryz.results44,go_sem,x0,x1,xf]) rfl ?_;rw [←HR.out];exact .inl ⟨by rw [E2.out];decide,by rw [E2.out];rfl,eA⟩
      | true =>
       go_wp2
       go_roundg (vn-(i+1))
       case measure=>have:=Hn.out;omega
       case rel=>exact⟨i+1,by rw [Hn.out];omega,by go_num,by rw [Hn.out],Hx.out.trans X5,nT aS X5.size,HC.out.ext X5,a7.out.ext' X5,a6.out.trans (zii Hq.out F1.out)⟩
     ·obtain rfl:i=vn:=oM
      have e2:ps.drop i=[]:=List.drop_of_length_le (by rw [Hn.out];exact nE _);rw [e2]at aC;have e:laidP g ps=0:=by rw [E3.out,aC];cases ps.take i<;>rfl
      have E2:=hd9 e;have bs:w.heap.size+1≠a:=by have:=Hz.out;omega
      clear e e2 aC hC;go_wp2;refine bR (v:=L #[N #[O ga gn gc,O va i vc],I J 0]) (by simp [results,Tryz.results44,go_sem,k0,k1,kf,m0,m1,bs]) rfl ?_;rw [←HR.out]
      have hN:∀T,T≠108→NoT T wr (w.heap.size+1):=fun T hT cs fr h=>by
       rw [HC.out.2.1]at h
       cases h
       exact hT rfl
      have hK:∀T u u',T≠108→KeepT T wr ((wr.setCell ⟨w.heap.size+1,0,X⟩ u).setCell ⟨w.heap.size+1,1,X⟩ u'):=fun T u u' hT=>((KeepT.refl _ wr).setN (hN T hT) _).setN ((hN T hT).set _ _) _
      exact .inr ⟨E2.out,_,rfl,Sl.keep d (fun _ _ h=>PLa.keep h (hK _ _ _ dM)) (hK _ _ _ dM),(Hx.out.set dO _).set dO _⟩
theorem znA (w:Y) (q r:Z) (g:List (Int×Int)) (ps:List Pl) (m:IsPts w q g) (p:IsPls w r ps) (d:Gw w) :
  Calls Tryz.prog 17 #[N #[q,r]] w fun e f=>e = .returned (I J (laidP g ps))∧Ext w f:=by
 have s:=hd9 (fun(W:Y) (b:Ext w W)=>zbN W q r g ps (m.ext' b) (p.ext' b) (d.ext b));obtain⟨u,x,v,rfl⟩:=form3 m;obtain⟨T,pn,K,rfl⟩:=form3 p;obtain⟨k,o⟩:=gX (laidP g ps);rw [o];have t:=hd9 o;clear m p d o
 have i:=hd9 (fun(W:Y) (b:Ext w W)=>(s.out W b).mono (fun(e:Ending) (f:Y) (h:RetLo W (O u x v) g ps e f)=>(show ∃a1 n1 c1 a2 n2 c2,e = .returned (L #[N #[O a1 n1 c1,O a2 n2 c2],I J k])∧Ext W f from by
  rcases h with ⟨_,j,l⟩|⟨y,vs,j,l,z⟩
  ·exact⟨X,0,0,X,0,0,by rw [j,t.out];rfl,l⟩
  ·obtain⟨a,n,c,rfl⟩:=form3 l
   exact⟨u,x,v,a,n,c,by rw [j,←t.out,y],z⟩)))
 clear s;go_enter Tryz.func17,Tryz.ntmps17
 go_wp2_with(go_at_call 44;(with_reducible refine(i.out _ ?_).mono ?_);exact eA;rintro e w3 ⟨a1,n1,c1,a2,n2,c2,rfl,D⟩)
 go_ret;exact⟨rfl,eA⟩
theorem zhp {g:List (Int×Int)}:∀{c done:List Pl},laid1 g done c=0→∀p∈c,placedOk p=true
 | [],_,_,p,b=>by cases b
 | q::r,done,h,p,b=>by
  unfold laid1 at h
  by_cases a:addE g done q=0
  ·rw [if_pos a]at h
   rcases List.mem_cons.1 b with rfl|b
   ·cases hk:placedOk p with
    | true=>rfl
    | false=>unfold addE at a;rw [hk]at a;simp at a
   ·exact zhp h p b
  ·rw [if_neg a]at h;exact absurd h a
theorem zbt {g:List (Int×Int)} {ps:List Pl} (h:laidP g ps=0):(∀p∈ps,placedOk p=true)∧ps.length≤120∧groundB g=true:=by
 unfold laidP at h
 cases hg:groundB g with
 | false=>rw [hg]at h;simp at h
 | true =>
  rw [hg,if_pos rfl]at h
  by_cases b:120<ps.length
  ·rw [if_pos b]at h;exact absurd h dM
  ·rw [if_neg b]at h
   by_cases a:laid1 g [] ps=0
   ·exact⟨zhp a,by omega,rfl⟩
   ·rw [if_neg a]at h;exact absurd h a
def OwnPl (w:Y) (base:Nat) (v:Z) (ps:List Pl):Prop:=∃cs,OwnC 37 10 w base v cs∧cs.length=ps.length∧∀(i:Nat) c p,cs[i]?=V c→ps[i]?=V p→PPl w c p
theorem OwnPl.pls {w:Y} {base:Nat} {v:Z} {ps:List Pl} (h:OwnPl w base v ps):IsPls w v ps:=by
 obtain⟨d,a,b,c⟩:=h;exact a.sl b c
def PI (_:Y) (c:List Z) (z:Int):Prop:=c=[I J z]
abbrev IsIs (w:Y) (v:Z) (zs:List Int):Prop:=Sl 3 1 PI w v zs
theorem IsIs.ext' {w w':Y} {v:Z} {zs:List Int} (h:IsIs w v zs) (k:Ext w w'):IsIs w' v zs:=Sl.ext h (fun _ _ h=>h) k
theorem IsIs.at' {w:Y} {a:Option Addr} {n c:Nat} {zs:List Int} (h:IsIs w (O a n c) zs) {i:Nat} {z:Int} (g:zs[i]?=V z) :
  ∃b o,a=V ⟨b,o,X⟩∧b<w.heap.size∧w.cell? ⟨b,o+i,X⟩=V (I J z):=by
 obtain⟨b,o,d,rfl,e,j,rfl,f⟩:=Sl.at h g;have:=f 0 _ rfl;rw [Nat.mul_one,Nat.add_zero]at this;exact⟨b,o,rfl,e,this⟩
theorem OwnC.is {w:Y} {base:Nat} {v:Z} {zs:List Int} (h:OwnC 3 1 w base v (zs.map ic)):IsIs w v zs:=
 OwnC.sl h sM (fun i c x a b=>by
  rw [lP,b]at a
  cases a;rfl)
def IiS (w:Y) (f:Int→Bool) (zs:List Int) (g:Nat) (a:Z) (W:Y):Prop:=
 ∃i:Nat,i≤zs.length∧a=I J i∧g=zs.length-i∧Ext w W∧∀j y,j<i→zs[j]?=V y→f y=false
theorem zok (w:Y) (b:Int) (o a:Obj):(((w.alloc o).alloc (M #[I J b] 3)).alloc a).heap[w.heap.size+1]?=V (M #[I J b] 3 (0,0)):=by
 rw [zai,if_neg sM];exact qhA _ _ _ sM
end
section
open Go.RowKit Go.Shelf
def preds (md:Region.Mode) (ops:Array Oper) (j:Nat):List Nat:=match ops[j]? with|some o=>(o.after.toList.filter (Region.binds md)).map (·.on)|none=>[]
def reach (md:Region.Mode) (ops:Array Oper):Nat→Nat→List Nat
 | 0,j=>preds md ops j
 | n+1,j=>preds md ops j++(preds md ops j).flatMap (reach md ops n)
def gated (md:Region.Mode) (ops:Array Oper) (late:Nat→Bool) (n:Nat):Bool:=
 (List.range ops.size).all fun j=>!late j || ((List.range ops.size).all fun i=>late i || (reach md ops n j).contains i)
def Cl (md:Region.Mode) (ops:Array Oper) (a:Array Bool):Prop:=∀k o,ops[k]?=V o→a.getD k false=true→∀e∈o.after,Region.binds md e=true→a.getD e.on false=true
section
variable {n:Nat} {P:Program} {ops:Array Oper} {Q:Exit→C→Y→Prop} {md:Region.Mode} {S:Y→Prop} {late:Nat→Bool}
theorem zcc {a:Array Bool} {j:Nat} (h:∀o,ops[j]?=V o→∀e∈o.after,Region.binds md e=true→a.getD e.on false=true):∀k∈preds md ops j,a.getD k false=true:=by
 intro k b;unfold preds at b
 cases ho:ops[j]? with
 | none=>rw [ho]at b;cases b
 | some o =>
  rw [ho]at b;obtain⟨e,f,rfl⟩:=List.mem_map.1 b;obtain⟨c,d⟩:=List.mem_filter.1 f;exact h o ho e (by simpa using c) d
theorem zbu {a:Array Bool} (c:Cl md ops a):∀(n j:Nat),(∀o,ops[j]?=V o→∀e∈o.after,Region.binds md e=true→a.getD e.on false=true)→∀k∈reach md ops n j,a.getD k false=true
 | 0,j,h=>zcc h
 | n+1,j,h=>by
  intro k b
  rcases List.mem_append.1 b with b|b
  ·exact zcc h k b
  ·obtain⟨i,f,b⟩:=List.mem_flatMap.1 b
   have d:=zcc h i f;exact zbu c n i (fun o g=>c i o g d) k b
theorem zej {a:Array Bool} {m i j:Nat} (k:gated md ops late m=true) (r:Cl md ops a) (hi:i∈Region.ready md ops a) (t:late i=false) (s:j∈Region.ready md ops a):late j=false:=by
 cases hlj:late j with
 | false=>rfl
 | true =>
  exfalso
  obtain⟨p,v,d,c⟩:=mem_ready.1 s;obtain⟨b,u,l,_⟩:=mem_ready.1 hi;unfold gated at k;rw [List.all_eq_true]at k;have f:=k j (List.mem_range.2 (Array.getElem?_eq_some_iff.1 d).1);rw [hlj]at f;simp only [Bool.not_true,Bool.false_or,List.all_eq_true]at f;have g:=f i (List.mem_range.2 (Array.getElem?_eq_some_iff.1 l).1);rw [t]at g;simp only [Bool.false_or,List.contains_eq_mem,decide_eq_true_eq]at g;have h:=zbu r m j (fun o q=>by rw [d]at q;cases q;exact c) i g
  rcases Nat.lt_or_ge i a.size with e | e
  ·simp [e]at h b;rw [h]at b;cases b
  ·simp [Array.getElem?_eq_none e]at h
theorem Cl.step {a:Array Bool} (q:Cl md ops a) {j:Nat} (r:j∈Region.ready md ops a):Cl md ops (a.setIfInBounds j true):=by
 intro k o p m e l i
 have key:a.getD e.on false=true→(a.setIfInBounds j true).getD e.on false=true:=by
  intro h
  by_cases g:e.on=j
  ·subst g
   rcases Nat.lt_or_ge e.on a.size with f | f
   ·simp [f]
   ·simp [Array.getElem?_eq_none f]at h
  ·rw [getD_set_ne false (Ne.symm g)];exact h
 by_cases c:k=j
 ·subst c
  obtain⟨_,s,d,b⟩:=mem_ready.1 r;rw [p]at d;cases d;exact key (b e l i)
 ·rw [getD_set_ne false (Ne.symm c)]at m
  exact key (q k o p m e l i)
theorem Cl.start (m:Nat):Cl md ops (Array.replicate m false):=by
 intro k o _ a;simp [Array.getD_eq_getD_getElem?,Array.getElem?_replicate]at a
 split at a<;>simp at a
theorem zcg {i:Nat} {o:Oper} {v:Z} {a:C} (hi:ops[i]?=V o) (e:YieldsIf P ops S o v a)
  {K:C→Y→Prop} {w:Y} (d:S w) (h:K (a.put o.dst v) w):wpOpIn Fence.wide n P ops Q i K a w:=by
 unfold Go.wpOpIn;simp only [hi];have b:Fence.wide.round=X:=rfl
 rcases e with ⟨c,hv⟩|⟨c,rfl⟩
 ·simp only [c,if_true,Oper.wpIn,b,Oper.semAt_none,hv w d,Oper.uponIn];exact⟨fun _ _=>trivial,h⟩
 ·simp only [c,Bool.false_eq_true,if_false];exact⟨fun _ _=>trivial,h⟩
theorem zgp {j:Nat} {oi k:Oper} {v:Z} (hj:ops[j]?=V k) (t:oi.apart ops k=true)
  (y:∀cs b,oi.op ≠ .select cs b) (z:∀cs b,k.op ≠ .select cs b)
  (s:∀c a w,Q (.panic c) (a.put oi.dst v) w→Q (.panic c) a w) {K:C→Y→Prop} {a:C} {w:Y}
  (i:YieldsIf P ops S oi v a) (h:wpOpIn Fence.wide n P ops Q j K (a.put oi.dst v) w) :
  wpOpIn Fence.wide n P ops Q j (fun T D=>YieldsIf P ops S oi v T∧K (T.put oi.dst v) D) a w:=by
 obtain⟨W,m,h3⟩:=Oper.apart_spec t;have p:Fence.wide.round=X:=rfl
 have keep:∀(a:C),YieldsIf P ops S oi v a→∀u,YieldsIf P ops S oi v (a.put k.dst u):=fun a i u =>
  i.of_same (execOp_put oi y a k.dst u h3) (wanted_put oi a k.dst u h3)
 have o:∀d,YieldsIf P ops S oi v { a with defers:=d::a.defers }:=fun d=>i.of_same rfl rfl
 unfold wpOpIn at *;simp only [hj]at *;rw [wanted_put k a oi.dst v W]at h
 split
 ·rename_i hw
  simp only [hw,if_true]at h;unfold Oper.wpIn at *;refine⟨fun _ _=>trivial,?_⟩;have h:=h.2;rw [p,Oper.semAt_none,execOp_put k z a oi.dst v W]at h;rw [p,Oper.semAt_none]
  generalize (execOp a.eval k).run P w=r at *
  cases r with
  | ok x D =>
   cases x<;>simp only [Oper.uponIn]at h ⊢
   case value u=>exact⟨keep a i u,by rw [←Act.put_comm a v u m];exact h⟩
   case skip=>exact⟨keep a i _,by rw [←Act.put_comm a v undef m];exact h⟩
   case defer d =>
    refine⟨keep _ (o d) _,?_⟩;rw [←Act.put_comm _ v undef m,←Act.put_defers];exact h
   case enter f args =>
    refine⟨h.1,CallsIn.mono h.2 fun e q g=>?_⟩
    cases e with
    | returned u=>exact⟨keep a i u,by rw [←Act.put_comm a v u m];exact g⟩
    | panicked c=>exact s _ _ _ g
    | outgrown=>exact g
   case row row args=>exact⟨h.1,RowsIn.mono h.2 fun u q g=>⟨keep a i u,by rw [←Act.put_comm a v u m];exact g⟩⟩
   case round l f tmps assign body =>
    refine⟨h.1,RoundIn.mono h.2 fun e q g=>?_⟩
    cases e with
    | returned u=>exact⟨keep a i u,by rw [←Act.put_comm a v u m];exact g⟩
    | panicked c=>exact s _ _ _ g
    | outgrown=>exact g
  | halt x D =>
   cases x<;>simp only [Oper.uponIn]at h ⊢
   case panic u=>exact s _ _ _ h
 ·rename_i hw
  simp only [hw]at h;exact⟨fun _ _=>trivial,keep a i _,by rw [←Act.put_comm a v undef m];exact h.2⟩
def HI (n:Nat) (P:Program) (md:Region.Mode) (ops:Array Oper) (Q:Exit→C→Y→Prop) (S:Y→Prop) (late:Nat→Bool):Nat→Array Bool→C→Y→Prop
 | 0,b,a,w=>Region.ready md ops b=[]∧Q .normal a w
 | fuel+1,b,a,w =>
  (Region.ready md ops b=[]→Q .normal a w) ∧
  ∀i∈Region.ready md ops b,wpOpIn Fence.wide n P ops Q i (fun d c=>(late i=false→S c)∧HI n P md ops Q S late fuel (b.setIfInBounds i true) d c) a w
theorem zcY:∀(fuel:Nat) (b:Array Bool) (a:C) (w:Y),HI n P md ops Q S late fuel b a w→wpAnyIn Fence.wide n P md ops Q fuel b a w
 | 0,_,_,_,h=>h
 | fuel+1,_,_,_,h=>⟨h.1,fun i e=>wpOpIn_mono (fun c f d=>zcY fuel _ c f d.2) (h.2 i e)⟩
theorem zkS {m i:Nat} {oi:Oper} {v:Z} (hg:gated md ops late m=true) (ac:late i=false) (hi:ops[i]?=V oi) (r:∀(j:Nat) (o:Oper) x b,ops[j]?=V o→o.op ≠ .select x b)
  (hQ:∀c a w,Q (.panic c) (a.put oi.dst v) w→Q (.panic c) a w) :
  ∀(fuel:Nat) (d:Array Bool) (a:C) (w:Y),Cl md ops d →
   (∀j oj,ops[j]?=V oj→j≠i→d.getD j true=false→(∀e∈oj.after,Region.binds md e=true→e.on≠i)→oi.apart ops oj=true) →
   i∈Region.ready md ops d→YieldsIf P ops S oi v a→S w →
   HI n P md ops Q S late fuel (d.setIfInBounds i true) (a.put oi.dst v) w→HI n P md ops Q S late (fuel+1) d a w:=by
 intro fuel
 induction fuel with
 | zero =>
  intro d a w hc _ q hy y H;refine⟨fun h=>(by rw [h]at q;cases q),fun j u=>?_⟩
  by_cases f:j=i
  ·subst f;exact zcg hi hy y ⟨fun _=>y,H⟩
  ·have:=ready_mono u f
   rw [H.1]at this
   cases this
 | succ fuel ih =>
  intro d a w hc g q hy y H;refine⟨fun h=>(by rw [h]at q;cases q),fun j u=>?_⟩
  by_cases f:j=i
  ·subst f;exact zcg hi hy y ⟨fun _=>y,H⟩
  ·have s:=H.2 j (ready_mono u f)
   have ad:=zej hg hc q ac u;obtain⟨p,oj,t,z⟩:=mem_ready.1 u
   have K:∀e∈oj.after,Region.binds md e=true→e.on≠i:=fun e he hb aa=>by
    have s:=z e he hb;have h0:=(mem_ready.1 q).1;rw [aa]at s
    rcases Nat.lt_or_ge i d.size with h' | h'
    ·simp [h']at h0 s;rw [h0]at s;cases s
    ·simp [Array.getElem?_eq_none h']at s
   have h2:=zgp t (g j oj t f p K) (fun x b=>r i oi x b hi) (fun x b=>r j oj x b t) hQ hy s
   have l:∀k ok,ops[k]?=V ok→k≠i→(d.setIfInBounds j true).getD k true=false →
     (∀e∈ok.after,Region.binds md e=true→e.on≠i)→oi.apart ops ok=true:=fun k ok hk ab T ae=>by
    refine g k ok hk ab ?_ ae
    by_cases D:j=k
    ·subst D;exact p
    ·rw [getD_set_ne true D]at T;exact T
   refine wpOpIn_mono (fun a' w' W=>⟨W.2.1,ih (d.setIfInBounds j true) a' w' (hc.step u) l (ready_mono q (Ne.symm f)) W.1 (W.2.1 ad) ?_⟩) h2;rw [Array.setIfInBounds_comm _ _ f];exact W.2.2
def HIc (n:Nat) (P:Program) (md:Region.Mode) (ops:Array Oper) (Q:Exit→C→Y→Prop) (S:Y→Prop) (late:Nat→Bool) (fuel:Nat) (b:Array Bool) (a:C) (w:Y):Prop:=Cl md ops b→HI n P md ops Q S late fuel b a w
def TakeHI (n:Nat) (P:Program) (md:Region.Mode) (ops:Array Oper) (Q:Exit→C→Y→Prop) (S:Y→Prop) (late:Nat→Bool) (fuel:Nat) (b:Array Bool) (a:C) (w:Y) (i:Nat) (oi:Oper):Prop:=
 ∃v,late i=false∧Region.noSelect ops=true∧Region.free md ops b i=true∧(Region.ready md ops b).contains i=true∧(∀c a w,Q (.panic c) (a.put oi.dst v) w→Q (.panic c) a w)∧YieldsIf P ops S oi v a∧S w ∧
  HIc n P md ops Q S late fuel (b.setIfInBounds i true) (a.put oi.dst v) w
theorem takeHI {m:Nat} (p:gated md ops late m=true) {i:Nat} {oi:Oper} {fuel:Nat} {b:Array Bool} {a:C} {w:Y} (hi:ops[i]?=V oi) (h:TakeHI n P md ops Q S late fuel b a w i oi):HIc n P md ops Q S late (fuel+1) b a w:=by
 obtain⟨v,e,f,g,j,k,l,h6,o⟩:=h;intro c;have d:i∈Region.ready md ops b:=by simpa using j
 exact zkS p e hi (Region.noSelect_spec f) k fuel b a w c (Region.free_spec hi g) d l h6 (o (c.step d))
def CallHI (n:Nat) (P:Program) (md:Region.Mode) (ops:Array Oper) (Q:Exit→C→Y→Prop) (S:Y→Prop) (late:Nat→Bool) (fuel:Nat) (b:Array Bool) (a:C) (w:Y) (i:Nat) (o:Oper):Prop:=
 Region.ready md ops b=[i]∧∀K':C→Y→Prop,Shut (∀a w,(late i=false→S w)→((late i=false→S w)→HIc n P md ops Q S late fuel (b.setIfInBounds i true) a w)→K' a w) →
  if Region.wanted o (yielded ops a.tmps)=true then Oper.wpIn Fence.wide n P o a w K' Q else K' (a.put o.dst undef) w
theorem callHI {i:Nat} {o:Oper} {fuel:Nat} {b:Array Bool} {a:C} {w:Y} (hi:ops[i]?=V o) (h:CallHI n P md ops Q S late fuel b a w i o):HIc n P md ops Q S late (fuel+1) b a w:=by
 obtain⟨g,h⟩:=h;intro p;refine⟨fun k=>absurd (g▸k) sM,fun j d=>?_⟩;have e:=d;rw [g]at d
 cases List.mem_singleton.1 d
 refine wpOpIn_step hi (fun K' l=>?_);have c:=h K' (fun a w f m=>l a w ⟨f,m f (p.step e)⟩)
 split
 ·rename_i hw;rw [if_pos hw]at c;exact c
 ·rename_i hw;rw [if_neg hw]at c;exact⟨fun _ _=>trivial,c⟩
theorem ti1 {v:Z} {i:Nat} {oi:Oper} {fuel:Nat} {b:Array Bool} {a:C} {w:Y} {G:Prop} (h:G) (l:gated md ops late 12=true:=by kernel_rfl) (hi:ops[i]?=V oi:=by(simp only [gA,gS,gZ];rfl)) (e:late i=false:=by rfl) (f:Region.noSelect ops=true:=by kernel_rfl) (g:Region.free md ops b i=true:=by kernel_rfl) (j:(Region.ready md ops b).contains i=true:=by kernel_rfl) (h4:∀c a w,Q (.panic c) (a.put oi.dst v) w→Q (.panic c) a w:=by exact fun _ _ _ h=>h) (m:Region.wanted oi (yielded ops a.tmps)=true:=by rfl) (o:∀w,S w→(execOp a.eval oi).run P w = .ok (.value v) w:=by(intro w d;simp only [CellL,and_true]at d;go_simp;try(with_reducible rfl))) (h6:S w:=by(with_reducible assumption)) (k:HIc n P md ops Q S late fuel (b.setIfInBounds i true) (a.put oi.dst v) w=G:=by((try simp only [Act.put,sA,sZ,sS]);rfl)):HIc n P md ops Q S late (fuel+1) b a w:=by
 subst k;exact takeHI l hi ⟨v,e,f,g,j,h4,Or.inl ⟨m,o⟩,h6,h⟩
theorem tig1 {i:Nat} {oi:Oper} {fuel:Nat} {b:Array Bool} {a:C} {w:Y} {G:Prop} (h:G) (k:gated md ops late 12=true:=by kernel_rfl) (hi:ops[i]?=V oi:=by(simp only [gA,gS,gZ];rfl)) (d:late i=false:=by rfl) (e:Region.noSelect ops=true:=by kernel_rfl) (f:Region.free md ops b i=true:=by kernel_rfl) (g:(Region.ready md ops b).contains i=true:=by kernel_rfl) (h4:∀c a w,Q (.panic c) (a.put oi.dst undef) w→Q (.panic c) a w:=by exact fun _ _ _ h=>h) (l:Region.wanted oi (yielded ops a.tmps)=false:=by rfl)  (h6:S w:=by(with_reducible assumption)) (j:HIc n P md ops Q S late fuel (b.setIfInBounds i true) (a.put oi.dst undef) w=G:=by((try simp only [Act.put,sA,sZ,sS]);rfl)):HIc n P md ops Q S late (fuel+1) b a w:=by
 subst j;exact takeHI k hi ⟨undef,d,e,f,g,h4,Or.inr ⟨l,rfl⟩,h6,h⟩
theorem tin {v:Z} {i:Nat} {oi:Oper} {fuel:Nat} {b:Array Bool} {a:C} {w:Y} {G:Prop} (h:G) (l:gated md ops late 12=true:=by kernel_rfl) (hi:ops[i]?=V oi:=by(simp only [gA,gS,gZ];rfl)) (e:late i=false:=by rfl) (f:Region.noSelect ops=true:=by kernel_rfl) (g:Region.free md ops b i=true:=by kernel_rfl) (j:(Region.ready md ops b).contains i=true:=by kernel_rfl) (h4:∀c a w,Q (.panic c) (a.put oi.dst v) w→Q (.panic c) a w:=by exact fun _ _ _ h=>h) (m:Region.wanted oi (yielded ops a.tmps)=true:=by rfl) (o:∀w,S w→(execOp a.eval oi).run P w = .ok (.value v) w:=by(intro w d;simp only [CellL,and_true]at d;go_simp;try(with_reducible rfl))) (h6:S w:=by(with_reducible assumption)) (k:wpN (i+1) (HIc n P md ops Q S late fuel (b.setIfInBounds i true) (a.put oi.dst v) w)=G:=by((try simp only [Act.put,sA,sZ,sS,Nat.reduceAdd]);rfl)):wpN i (HIc n P md ops Q S late (fuel+1) b a w):=by
 subst k;exact takeHI l hi ⟨v,e,f,g,j,h4,Or.inl ⟨m,o⟩,h6,h⟩
theorem tign {i:Nat} {oi:Oper} {fuel:Nat} {b:Array Bool} {a:C} {w:Y} {G:Prop} (h:G) (k:gated md ops late 12=true:=by kernel_rfl) (hi:ops[i]?=V oi:=by(simp only [gA,gS,gZ];rfl)) (d:late i=false:=by rfl) (e:Region.noSelect ops=true:=by kernel_rfl) (f:Region.free md ops b i=true:=by kernel_rfl) (g:(Region.ready md ops b).contains i=true:=by kernel_rfl) (h4:∀c a w,Q (.panic c) (a.put oi.dst undef) w→Q (.panic c) a w:=by exact fun _ _ _ h=>h) (l:Region.wanted oi (yielded ops a.tmps)=false:=by rfl)  (h6:S w:=by(with_reducible assumption)) (j:wpN (i+1) (HIc n P md ops Q S late fuel (b.setIfInBounds i true) (a.put oi.dst undef) w)=G:=by((try simp only [Act.put,sA,sZ,sS,Nat.reduceAdd]);rfl)):wpN i (HIc n P md ops Q S late (fuel+1) b a w):=by
 subst j;exact takeHI k hi ⟨undef,d,e,f,g,h4,Or.inr ⟨l,rfl⟩,h6,h⟩
theorem ci1 {i:Nat} {o:Oper} {fuel:Nat} {b:Array Bool} {a:C} {w:Y} (h:∀K':C→Y→Prop,Shut (∀a w,(late i=false→S w)→((late i=false→S w)→HIc n P md ops Q S late fuel (b.setIfInBounds i true) a w)→K' a w) →
  if Region.wanted o (yielded ops a.tmps)=true then Oper.wpIn Fence.wide n P o a w K' Q else K' (a.put o.dst undef) w) (hi:ops[i]?=V o:=by(simp only [gA,gS,gZ];rfl)) (c:Region.ready md ops b=[i]:=by kernel_rfl):HIc n P md ops Q S late (fuel+1) b a w:=callHI hi ⟨c,h⟩
theorem doneHI {b:Array Bool} {a:C} {w:Y} (c:Region.ready md ops b=[]) (h:Q .normal a w):∀fuel,HIc n P md ops Q S late fuel b a w
 | 0=>fun _=>⟨c,h⟩
 | _+1=>fun _=>⟨fun _=>h,by rw [c];simp⟩
theorem zeJ {d:Nat} {a:C} {w:Y} (late:Nat→Bool) (S:Y→Prop) (c:P.follows .mixedOrders=true) (b:S w.drew)
  (h:S w.drew→HIc n P .any ops Q S late ops.size (Array.replicate ops.size false) a w.drew):(Code.region d ops true).wpIn Fence.wide n P Q a w:=
 wpIn_region_any c (zcY _ _ _ _ (h b (Cl.start _)))
end
end
section
open Go.RowKit Go.Shelf
theorem ziu {n:Nat} {P:Program} {row:String} {args:Array Z} {w:Y} {R:Z→Y→Prop} (h:Rows P row args w R):RowsIn Fence.wide n P row args w R:=by
 intro c a _;obtain⟨v,b,r,s⟩:=h c a;exact⟨v,b,r,stepsIn_wide.2 s⟩
theorem zj4 {n:Nat} {P:Program} {o:Oper} {a:C} {w:Y} {K:C→Y→Prop} {Q:Exit→C→Y→Prop} (i:∀c,o.op ≠ .defer c) (h:o.wp P a w K (NQ Q)):o.wpIn Fence.wide n P a w K Q:=by
 refine⟨fun _ _=>trivial,?_⟩;rw [Oper.semAt_plain _ _ _ i];unfold Oper.wp at h
 generalize (execOp a.eval o).run P w=r at *
 have b:Fence.wide.depth.isSome=true→1≤n:=fun h=>by cases h
 cases r with
 | ok x j =>
  cases x with
  | value u=>exact h
  | skip=>exact h
  | defer d=>exact h
  | enter f args =>
   refine⟨b,callsIn_wide.2 (cM h fun e k g=>?_)⟩
   cases e with
   | returned u=>exact g
   | panicked c=>exact g.elim
   | outgrown=>exact(zg2 g).elim
  | row row args=>exact⟨b,ziu h⟩
  | _=>exact h.elim
 | halt x j =>
  cases x<;>first|exact h.elim|skip
theorem zdt {n:Nat} {P:Program} {md:Region.Mode} {ops:Array Oper} {Q:Exit→C→Y→Prop} (d:noDefer ops=true):∀(fuel:Nat) (b:Array Bool) (a:C) (w:Y),
  wpAny P md ops (NQ Q) fuel b a w→wpAnyIn Fence.wide n P md ops Q fuel b a w
 | 0,_,_,_,h=>h
 | fuel+1,b,a,w,h=>by
  refine⟨h.1,fun i g=>?_⟩;have c:=h.2 i g;unfold wpOp at c;unfold wpOpIn
  cases ho:ops[i]? with
  | none=>rw [ho]at c;exact zdt d fuel _ a w c
  | some o =>
   rw [ho]at c;dsimp only at c ⊢
   split
   ·rename_i hw
    rw [if_pos hw]at c
    rcases c with c|⟨_,c⟩
    ·exact Oper.wpIn_mono (fun e j f=>zdt d fuel _ e j f) (zj4 (zeY d ho) c)
    ·exact(zg2 c).elim
   ·rename_i hw
    rw [if_neg hw]at c;exact⟨fun _ _=>trivial,zdt d fuel _ _ w c⟩
theorem ziP {n:Nat} {P:Program} {ops:Array Oper} {Q:Exit→C→Y→Prop} {S:Y→Prop} {e:Nat} {a:C} {w:Y} (d:P.follows .mixedOrders=true) (c:noDefer ops=true) (b:S w.drew)
  (h:S w.drew→wpAnyH P .any ops (NQ Q) S ops.size (Array.replicate ops.size false) a w.drew):(Code.region e ops true).wpIn Fence.wide n P Q a w:=
 wpIn_region_any d (zdt c _ _ _ _ (wpAny_of_held _ _ _ _ (h b)))
theorem zkM {n:Nat} {P:Program} {ops:Array Oper} {Q:Exit→C→Y→Prop} {f:Nat} {a:C} {w:Y} (late:Nat→Bool) (S:Y→Prop) (d:P.follows .mixedOrders=true) (c:S w.drew)
  (h:S w.drew→HIc n P .any ops (NQ Q) S late ops.size (Array.replicate ops.size false) a w.drew):(Code.region f ops true).wpIn Fence.wide n P Q a w:=
 wpIn_mono (zeJ late S d c h) (fun e a w b=>by cases e<;>first|exact b|exact b.elim)
def marks (a:List Nat):List Deferred:=a.map fun D=>{ target:=.collected D,args:=#[] }
def Marked (W:Y) (a:List Nat):Prop:=a.Nodup∧∀D∈a,W.heap[D]?=V (.deferred (V []))
theorem Marked.ext {W W':Y} {a:List Nat} (h:Marked W a) (k:Ext W W'):Marked W' a:=⟨h.1,fun D b=>k.heapS (h.2 D b)⟩
theorem Marked.nil (W:Y):Marked W []:=⟨List.nodup_nil,fun D a=>by cases a⟩
theorem Marked.cons {W:Y} {a:List Nat} {D:Nat} (h:Marked W a) (c:W.heap[D]?=V (.deferred (V []))) (d:D ∉ a):Marked W (D::a):=
 ⟨List.nodup_cons.2 ⟨d,h.1⟩,fun E b=>by rcases List.mem_cons.1 b with rfl|b;exact c;exact h.2 E b⟩
theorem Marked.set {W:Y} {a:List Nat} (h:Marked W a) {p:Addr} {cs:Array Z} {T:TypeId} {c:Nat×Nat} (d:W.heap[p.block]?=V (M cs T c)) (u:Z):Marked (W.setCell p u) a:=
 ⟨h.1,fun D b=>by rw [bS _ _ _ _ (by intro e;have:=h.2 D b;rw [e,d]at this;cases this)];exact h.2 D b⟩
theorem Marked.grown {W W':Y} {c:List Nat} {row:Option Nat} (h:Marked W c) (f:W.grownBy W' row) (b:∀r,row=V r→∃cs T fr,W.heap[r]?=V (M cs T fr)):Marked W' c:=
 ⟨h.1,fun D d=>by
  have a:=h.2 D d;rw [f.block D (zaa a) (fun e=>by obtain⟨cs,T,fr,b⟩:=b D e.symm;rw [b]at a;cases a)];exact a⟩
theorem zca {n:Nat} {P:Program} {f:Func} {tmps:Array Z} {R:Ending→Y→Prop}:∀(a:List Nat) (W:Y),Marked W a →
  (∀W':Y,(∀B,(∀D∈a,B≤D)→Sim B W W')→LeavesInM Fence.wide n P f tmps R [] .returning W')→LeavesInM Fence.wide n P f tmps R (marks a) .returning W
 | [],W,_,h=>h W (fun B _=>⟨Below.refl _ _,fun _ _ h _=>h⟩)
 | D::a,W,hm,h=>by
  have j:=hm.2 D sM;have m:=zgX j (.deferred X);refine⟨by simp,.inl ⟨D,_,rfl,run_takeDeferred j,?_⟩⟩;refine zca a _ ⟨(List.nodup_cons.1 hm.1).2,fun E b=>?_⟩ (fun W' c=>h W' (fun B i=>?_))
  ·have d:E≠D:=fun e=>(List.nodup_cons.1 hm.1).1 (e▸b)
   rw [World.putObj_heap_other d];exact hm.2 E (mC _ b)
  ·have g:=c B (fun E b=>i E (mC _ b))
   exact⟨(Below.mono m.1 (i D sM)).trans g.1,fun k o p l=>g.2 k o (m.2 k o p l) l⟩
end
end Go.Proofs.YtodpfeaihohpjaaGreatDoor.Cop
