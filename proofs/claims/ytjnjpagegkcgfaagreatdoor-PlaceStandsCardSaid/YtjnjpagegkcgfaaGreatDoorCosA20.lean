/- Part 21. -/
import Derived.Test.YtjnjpagegkcgfaaGreatDoorCosA19
import Derived.Test.YtjnjpagegkcgfaaGreatDoorCosA07
set_option maxRecDepth 1000000
set_option maxHeartbeats 16000000
set_option linter.unusedSimpArgs false
set_option linter.unusedVariables false
open Go.Value renaming slice->O,int->Z,agg->M,bool->C,pointer->F
open Option renaming none->Y,some->J
open Go renaming World->X,Value->I
open Go.IntKind renaming i64->V
open Go.Obj renaming cells->N
namespace Go.Proofs.YtjnjpagegkcgfaaGreatDoor.Cop
section
open Go.RowKit Go.Shelf Go.Sort Go.Lib
def relP(p q:Pl):Int:=
 if lineR (lowP2 p)<=lineL (lowP2 q)then 1
 else if lineR (lowP2 q)<=lineL (lowP2 p)then 2
 else if freeB (lowP2 p) (upP2 q)then 3
 else if freeB (lowP2 q) (upP2 p)then 4
 else 5
def PLa(w:X)(c:List I)(p:Pl):Prop:=∃v vl vu,c=(lac p v vl vu).toList/\IsPts w v p.shape/\IsPts w vl (lowP2 p)/\IsPts w vu (upP2 p)
def IsLa(w:X)(v:I)(p:Pl):Prop:=∃s vl vu,v=M (lac p s vl vu)/\IsPts w s p.shape/\IsPts w vl (lowP2 p)/\IsPts w vu (upP2 p)
theorem IsLa.ext{w w':X}{v:I}{p:Pl}(h:IsLa w v p)(k:Ext w w'):IsLa w' v p:=by
 obtain⟨s,g,i,b,d,e,f⟩:=h;exact⟨s,g,i,b,d.ext' k,e.ext' k,f.ext' k⟩
theorem IsLa.keep{w w':X}{v:I}{p:Pl}(h:IsLa w v p)(k:KeepT 43 w w'):IsLa w' v p:=by
 obtain⟨s,g,i,b,d,e,f⟩:=h;exact⟨s,g,i,b,d.keep' k,e.keep' k,f.keep' k⟩
abbrev IsLas(w:X)(v:I)(ps:List Pl):Prop:=Sl 128 12 PLa w v ps
theorem PLa.ext{w w':X}{c:List I}{p:Pl}(h:PLa w c p)(k:Ext w w'):PLa w' c p:=by
 obtain⟨s,g,i,b,d,e,f⟩:=h;exact⟨s,g,i,b,d.ext' k,e.ext' k,f.ext' k⟩
theorem PLa.keep{w w':X}{c:List I}{p:Pl}(h:PLa w c p)(k:KeepT 43 w w'):PLa w' c p:=by
 obtain⟨s,g,i,b,d,e,f⟩:=h;exact⟨s,g,i,b,d.keep' k,e.keep' k,f.keep' k⟩
theorem IsLas.ext'{w w':X}{v:I}{ps:List Pl}(h:IsLas w v ps)(k:Ext w w'):IsLas w' v ps:=Sl.ext h (fun _ _ h=>PLa.ext h k) k
theorem zcR(w:X)(v1 v2:I)(p q:Pl)(h1:IsLa w v1 p)(h2:IsLa w v2 q)(k1:placedOk p=true)(k2:placedOk q=true) :
  Calls Tryz.prog 55 #[v1,v2] w fun e w'=>e = .returned (Z .u8 (relP p q))/\Ext w w':=by
 obtain⟨s1,l1,u1,rfl,p1,Q,p3⟩:=h1;obtain⟨s2,l2,u2,rfl,q1,R,q3⟩:=h2;obtain⟨o1,o2⟩:=zao k1;obtain⟨o3,o4⟩:=zao k2;have HA:=hd9 (fun(W:X)(g:Ext w W)=>zbi W l1 (lowP2 p) (Q.ext' g) (List.length_pos_iff.2 o1.1));have HB:=hd9 (fun(W:X)(g:Ext w W)=>zbo W l2 (lowP2 q) (R.ext' g) (List.length_pos_iff.2 o3.1));have HC:=hd9 (fun(W:X)(g:Ext w W)=>zbo W l1 (lowP2 p) (Q.ext' g) (List.length_pos_iff.2 o1.1));have HD:=hd9 (fun(W:X)(g:Ext w W)=>zbi W l2 (lowP2 q) (R.ext' g) (List.length_pos_iff.2 o3.1));have HE:=hd9 (fun(W:X)(g:Ext w W)=>zeJ W l1 u2 (lowP2 p) (upP2 q) (Q.ext' g) (q3.ext' g) o1 o4);have HF:=hd9 (fun(W:X)(g:Ext w W)=>zeJ W l2 u1 (lowP2 q) (upP2 p) (R.ext' g) (p3.ext' g) o3 o2);obtain⟨au,aw,rfl⟩:=p1.form;obtain⟨av,ay,rfl⟩:=q1.form;obtain⟨a1,c1,rfl⟩:=Q.form;obtain⟨a2,c2,rfl⟩:=R.form;obtain⟨T,ab,rfl⟩:=p3.form;obtain⟨aa,ac,rfl⟩:=q3.form;obtain⟨k,hk⟩:=gX (relP p q);have l:=hd9 hk;unfold relP at l;rw[hk];obtain⟨n1,f1⟩:=gX ((lowP2 p).length);obtain⟨n2,f2⟩:=gX ((lowP2 q).length);obtain⟨m1,f3⟩:=gX ((upP2 p).length);obtain⟨m2,f4⟩:=gX ((upP2 q).length);obtain⟨j1,f5⟩:=gX p.shape.length;obtain⟨j2,f6⟩:=gX q.shape.length;obtain⟨rp,f7⟩:=gX (lineR (lowP2 p));obtain⟨lp,f8⟩:=gX (lineL (lowP2 p));obtain⟨rq,f9⟩:=gX (lineR (lowP2 q));obtain⟨lq,y⟩:=gX (lineL (lowP2 q));obtain⟨fa,z⟩:=gX (freeB (lowP2 p) (upP2 q));obtain⟨fb,D⟩:=gX (freeB (lowP2 q) (upP2 p));simp only[f1,f2,f3,f4,f5,f6,f7,f8,f9,y,z,D]at HA HB HC HD HE HF l ⊢;obtain⟨nm,sh,d,de,gx,gz,wy,ax,az,sk⟩:=p;obtain⟨ar,aA,d',ao,ap,aq,aC,ai,aj,aB⟩:=q;clear hk p1 Q p3 q1 R q3 o1 o2 o3 o4 k1 k2 f1 f2 f3 f4 f5 f6 f7 f8 f9 y z D;unfold lac;dsimp only;go_enter Tryz.func55,Tryz.ntmps55;go_wp2;refine wp_region_held_drew (S:=CellL [(⟨w.heap.size,10,Y⟩,O a1 n1 c1),(⟨w.heap.size+1,10,Y⟩,O a2 n2 c2),(⟨w.heap.size,11,Y⟩,O T m1 ab),(⟨w.heap.size+1,11,Y⟩,O aa m2 ac)]) kM cA (fun b=>?_);refine sN 0 ?_
 iterate 2
  refine tkn ?_
 refine oN ?_;refine sN 3 ?_
 iterate 2
  refine tkn ?_
 refine oN ?_;refine cl1 (i:=2) fun K j=>?_
 go_simp
 (with_reducible refine cM (HA.out _ eA) ?_)
 rintro e w3 ⟨rfl,L⟩
 skip
 go_wp2_with fail
 refine kO j (cE b L) (fun b=>?_);clear j K;have X3:Ext w w3:=eA;refine cl1 (i:=5) fun K j=>?_
 go_simp
 (with_reducible refine cM (HB.out _ X3) ?_)
 rintro e w4 ⟨rfl,n⟩
 skip
 go_wp2_with fail
 refine kO j (cE b n) (fun b=>?_);clear j K;have X4:Ext w w4:=X3.trans n;refine sN 6 ?_
 iterate 2
  refine tkn ?_
 refine oN ?_;refine wpAnyH_done kM ?_ _;obtain⟨ak,al,am,an,_⟩:=b
 (try clear L);clear n X3
 by_cases g1:rp<=lq
 ·go_wp2
  go_ret;exact⟨by rw[<-l.out,if_pos g1];rfl,X4⟩
 rw[if_neg g1]at l;have aD:=X4.size;go_wp2;refine wp_region_held_drew (S:=CellL [(⟨w.heap.size,10,Y⟩,O a1 n1 c1),(⟨w.heap.size+1,10,Y⟩,O a2 n2 c2),(⟨w.heap.size,11,Y⟩,O T m1 ab),(⟨w.heap.size+1,11,Y⟩,O aa m2 ac)]) kM cA (fun b=>?_);refine sN 0 ?_
 iterate 2
  refine tkn ?_
 refine oN ?_;refine sN 3 ?_
 iterate 2
  refine tkn ?_
 refine oN ?_;refine cl1 (i:=2) fun K j=>?_
 go_simp
 (with_reducible refine cM (HC.out _ eA) ?_)
 rintro e w5 ⟨rfl,P⟩
 skip
 go_wp2_with fail
 refine kO j (cE b P) (fun b=>?_);clear j K;have X5:Ext w w5:=eA;refine cl1 (i:=5) fun K j=>?_
 go_simp
 (with_reducible refine cM (HD.out _ X5) ?_)
 rintro e w6 ⟨rfl,o⟩
 skip
 go_wp2_with fail
 refine kO j (cE b o) (fun b=>?_);clear j K;have X6:Ext w w6:=X5.trans o;refine sN 6 ?_
 iterate 2
  refine tkn ?_
 refine oN ?_;refine wpAnyH_done kM ?_ _;obtain⟨r,t,u,x,_⟩:=b
 (try clear P);clear o X5
 by_cases g2:rq<=lp
 ·go_wp2
  go_ret;exact⟨by rw[<-l.out,if_pos g2];rfl,X6⟩
 rw[if_neg g2]at l
 cases fa with
 | true =>
  go_wp2_with(go_at_call 131;(with_reducible refine(HE.out _ ?_).mono ?_);exact eA;rintro e w7 ⟨rfl,f⟩)
  go_ret;exact⟨by rw[<-l.out];rfl,eA⟩
 | false =>
  cases fb with
  | true =>
   go_wp2_with(first|(go_at_call 131;(with_reducible refine(HE.out _ ?_).mono ?_);exact eA;rintro e w7 ⟨rfl,f⟩;have ad:=f.cellS r;have ae:=f.cellS t;have af:=f.cellS u;have ag:=f.cellS x)|(go_at_call 131;(with_reducible refine(HF.out _ ?_).mono ?_);exact eA;rintro e w8 ⟨rfl,ah⟩))
   go_ret;exact⟨by rw[<-l.out];rfl,eA⟩
  | false =>
   go_wp2_with(first|(go_at_call 131;(with_reducible refine(HE.out _ ?_).mono ?_);exact eA;rintro e w7 ⟨rfl,f⟩;have ad:=f.cellS r;have ae:=f.cellS t;have af:=f.cellS u;have ag:=f.cellS x)|(go_at_call 131;(with_reducible refine(HF.out _ ?_).mono ?_);exact eA;rintro e w8 ⟨rfl,ah⟩))
   go_ret;exact⟨by rw[<-l.out];rfl,eA⟩
theorem IsLas.at'{w:X}{a:Option Addr}{n c:Nat}{ps:List Pl}(h:IsLas w (O a n c) ps){i:Nat}{p:Pl}(t:ps[i]?=J p) :
  ∃b o s vl vu,a=J ⟨b,o,Y⟩/\b<w.heap.size/\IsPts w s p.shape/\IsPts w vl (lowP2 p)/\IsPts w vu (upP2 p) /\
   ∀(j:Nat) u,(lac p s vl vu)[j]?=J u->w.cell? ⟨b,o+i*12+j,Y⟩=J u:=by
 obtain⟨b,o,d,rfl,k,x,⟨s,vl,vu,rfl,e,f,g⟩,l⟩:=Sl.at h t;exact⟨b,o,s,vl,vu,rfl,k,e,f,g,fun j u r=>l j u (by rw[Array.getElem?_toList];exact r)⟩
def LaB(W:X)(b:Nat)(p:Pl)(s d e:I):Prop:=W.heap[b]?=J (N (lac p s d e) 128 (0,0))/\IsPts W s p.shape/\IsPts W d (lowP2 p)/\IsPts W e (upP2 p)
theorem LaB.ext{W W':X}{b:Nat}{p:Pl}{s d e:I}(h:LaB W b p s d e)(k:Ext W W'):LaB W' b p s d e:=⟨k.heapS h.1,h.2.1.ext' k,h.2.2.1.ext' k,h.2.2.2.ext' k⟩
def clashB(q p:Pl):Bool:=meetB q p&&(relP q p==5)
def nameB(b:ByteArray)(p:Pl):Bool:=p.name.toList==b.toList
theorem zlr(w:X)(o:I)(p:Pl)(j:ByteArray)(b:Nat)(h:IsLa w o p)(r:w.cell? ⟨b,0,Y⟩=J (.string j)) :
  Calls Tryz.prog 130 #[o,F (J ⟨b,0,Y⟩)] w fun e w'=>e = .returned (C (nameB j p))/\Ext w w':=by
 obtain⟨s1,l1,u1,rfl,k,l,n⟩:=h;obtain⟨t,u,rfl⟩:=k.form;obtain⟨D,P,rfl⟩:=l.form;obtain⟨x,y,rfl⟩:=n.form;obtain⟨n1,f⟩:=gX ((lowP2 p).length);obtain⟨m1,g⟩:=gX ((upP2 p).length);obtain⟨W,i⟩:=gX p.shape.length;rw[f,g,i];obtain⟨np,sh,d,Q,R,T,wy,K,L,sk⟩:=p;clear k l n f g i;have zq:b<w.heap.size:=World.block_lt_of_cell? w _ r;have z:b<w.heap.size+1:=oM
 unfold lac nameB;dsimp only;go_enter Tryz.func130,Tryz.ntmps130;go_wp2;go_ret;exact⟨rfl,eA⟩
theorem zkV(w:X)(vp:I)(p q:Pl)(k:Nat)(s vl vu:I)(h:IsLa w vp p)(hq:LaB w k q s vl vu)(k1:placedOk p=true)(k2:placedOk q=true) :
  Calls Tryz.prog 132 #[vp,F (J ⟨k,0,Y⟩)] w fun e w'=>e = .returned (C (clashB q p))/\Ext w w':=by
 obtain⟨b,n,L,P⟩:=hq;have j:=hd9 (fun(W:X)(l:Ext w W)=>zcR W (M (lac q s vl vu)) vp q p ⟨_,_,_,rfl,n.ext' l,L.ext' l,P.ext' l⟩ (h.ext l) k2 k1);obtain⟨s1,l1,u1,rfl,K,p2,p3⟩:=h;have f:=hd9 (fun(W:X)=>zbY W q p s s1 (by obtain⟨a,c,h⟩:=n.form;exact⟨a,_,c,h⟩) (by obtain⟨a,c,h⟩:=K.form;exact⟨a,_,c,h⟩));obtain⟨au,av,rfl⟩:=K.form;obtain⟨a1,c1,rfl⟩:=p2.form;obtain⟨ay,aA,rfl⟩:=p3.form;obtain⟨Q,R,rfl⟩:=n.form;obtain⟨a2,c2,rfl⟩:=L.form;obtain⟨aa,ab,rfl⟩:=P.form;obtain⟨n1,f1⟩:=gX ((lowP2 p).length);obtain⟨n2,f2⟩:=gX ((lowP2 q).length);obtain⟨m1,f3⟩:=gX ((upP2 p).length);obtain⟨m2,f4⟩:=gX ((upP2 q).length);obtain⟨j1,f5⟩:=gX p.shape.length;obtain⟨j2,f6⟩:=gX q.shape.length;obtain⟨r,f7⟩:=gX (relP q p);obtain⟨m,f8⟩:=gX (meetB q p);unfold clashB;simp only[f1,f2,f3,f4,f5,f6,f7,f8]at j f b ⊢;obtain⟨nm,sh,d,de,gx,gz,wy,ax,az,sk⟩:=p;obtain⟨D,aw,d',x,y,z,ac,o,t,T⟩:=q;unfold lac at j b ⊢;unfold plc at f;dsimp only at j f b ⊢;have af:=qcB b (i:=0) (u:=.string D) rfl;have ag:=qcB b (i:=1) (u:=O Q j2 R) rfl;have ah:=qcB b (i:=2) (u:=Z V d') rfl;have ai:=qcB b (i:=3) (u:=Z V x) rfl;have aj:=qcB b (i:=4) (u:=Z V y) rfl;have ak:=qcB b (i:=5) (u:=Z V z) rfl;have al:=qcB b (i:=6) (u:=Z V ac) rfl;have am:=qcB b (i:=7) (u:=Z V o) rfl;have an:=qcB b (i:=8) (u:=Z V t) rfl;have ao:=qcB b (i:=9) (u:=Z .u8 T) rfl;have ad:=qcB b (i:=10) (u:=O a2 n2 c2) rfl;have ae:=qcB b (i:=11) (u:=O aa m2 ab) rfl;have zq:k<w.heap.size:=zaa b;have aB:k<w.heap.size+1:=oM
 clear b K p2 p3 n L P k1 k2 f1 f2 f3 f4 f5 f6 f7 f8
 cases m with
 | false =>
  go_enter Tryz.func132,Tryz.ntmps132
  go_wp2_with(go_at_call 54;(with_reducible refine(f.out _).mono ?_);rintro e w3 ⟨rfl,g⟩)
  go_ret;exact⟨rfl,eA⟩
 | true =>
  go_enter Tryz.func132,Tryz.ntmps132
  go_wp2_with(first|(go_at_call 54;(with_reducible refine(f.out _).mono ?_);rintro e w3 ⟨rfl,g⟩;obtain⟨ap,aq⟩:=g.cells)|(go_at_call 55;(with_reducible refine(j.out _ ?_).mono ?_);exact eA;rintro e w4 ⟨rfl,ar⟩))
  go_ret;exact⟨rfl,eA⟩
def IlS(w:X)(f:Pl->Bool)(ps:List Pl)(g:Nat)(b:I)(W:X):Prop:=
 ∃i:Nat,i<=ps.length/\b=Z V i/\g=ps.length-i/\Ext w W/\∀j y,j<i->ps[j]?=J y->f y=false
theorem zjv(w:X)(v:I)(ps:List Pl)(bq:Nat)(f:Pl->Bool)(h:IsLas w v ps)
  (hf:∀W,Ext w W->∀vp p,p∈ps->IsLa W vp p->Calls Tryz.prog 130 #[vp,F (J ⟨bq,0,Y⟩)] W fun e w'=>e = .returned (C (f p))/\Ext W w') :
  Calls Tryz.prog 181 #[v,.func (.func 130) #[] #[F (J ⟨bq,0,Y⟩)]] w fun e w'=>e = .returned (Z V (idxB f ps))/\Ext w w':=by
 obtain⟨a,c,rfl⟩:=h.form;obtain⟨n,hn⟩:=gX ps.length;rw[hn]at h ⊢;have t:=h.le;unfold maxLen at t;have ar:n<=9223372036854775807:=oM
 have k:=hd9 hn;have Hf:=hd9 hf;clear hn t hf;go_enter Tryz.func181,Tryz.ntmps181;go_wp2
 go_loopg [8] n (IlS w f ps)
 case atStart=>exact⟨0,by omega,rfl,by rw[k.out];rfl,eR _,fun j y z=>by omega⟩
 case round =>
  obtain⟨i,hi,rfl,rfl,hx,l⟩:=hrel;rw[k.out]at hi;have g:=hd9 l;clear l
  by_cases aa:i<n
  ·obtain⟨p,D⟩:∃q,ps[i]?=J q:=⟨ps[i]'(by rw[k.out];omega),by simp[k.out,aa]⟩
   obtain⟨b,o,s,vl,vu,rfl,hb,L,P,Q,d⟩:=(h.ext' hx).at' D;have r:=hd9 (fun W (x:Ext wr W)=>Hf.out W (hx.trans x) (M (lac p s vl vu)) p (lM D) ⟨_,_,_,rfl,L.ext' x,P.ext' x,Q.ext' x⟩);obtain⟨ac,ad,rfl⟩:=L.form;obtain⟨a1,c1,rfl⟩:=P.form;obtain⟨ae,af,rfl⟩:=Q.form;obtain⟨n1,f1⟩:=gX ((lowP2 p).length);obtain⟨m1,f3⟩:=gX ((upP2 p).length);obtain⟨j1,f5⟩:=gX p.shape.length;obtain⟨fp,R⟩:=gX (f p);rw[f1,f3,f5]at d r;rw[R]at r;have F7:=hd9 R;have K:=d 0 (.string p.name) rfl;have ai:=d 1 (O ac j1 ad) rfl;have aj:=d 2 (Z V p.depth) rfl;have ak:=d 3 (Z V p.density) rfl;have al:=d 4 (Z V p.gx) rfl;have am:=d 5 (Z V p.gz) rfl;have an:=d 6 (Z V p.way) rfl;have ao:=d 7 (Z V p.ax) rfl;have ap:=d 8 (Z V p.az) rfl;have aq:=d 9 (Z .u8 p.skin) rfl;have ag:=d 10 (O a1 n1 c1) rfl;have ah:=d 11 (O ae m1 af) rfl;simp only[Nat.add_zero]at K;have Hq:=hd9 D;unfold lac at r;clear D d L P Q f1 f3 f5 R
   cases fp with
   | true =>
    have e:idxB f ps=(i:Int):=zcy Hq.out F7.out g.out;have E:=hd9 e;clear e
    go_wp2_with(((go_at_call 130;(with_reducible refine(r.out _ ?_).mono ?_);exact eA;rintro e w1 ⟨rfl,ab⟩)))
    go_ret;exact⟨by rw[E.out];rfl,eA⟩
   | false =>
    go_wp2_with(((go_at_call 130;(with_reducible refine(r.out _ ?_).mono ?_);exact eA;rintro e w1 ⟨rfl,ab⟩)))
    go_roundg (n-(i+1))
    case measure=>have:=k.out;omega
    case rel =>
     refine⟨i+1,by have:=k.out;omega,by go_num,by rw[k.out],eA,fun j y z u=>?_⟩
     by_cases T:j=i
     ·subst T;rw[Hq.out]at u;cases u;exact F7.out
     ·exact g.out j y oM u
  ·obtain rfl:i=n:=oM
   have e:idxB f ps = -1:=zcx (fun j y z u=>g.out j y (by rw[k.out]at z;exact z) u);have E:=hd9 e;clear e;go_wp2;go_ret;exact⟨by rw[E.out];rfl,hx⟩
theorem ziM(w:X)(v:I)(ps:List Pl)(b:Nat)(f:Pl->Bool)(h:IsLas w v ps)
  (j:∀W,Ext w W->∀vp p,p∈ps->IsLa W vp p->Calls Tryz.prog 130 #[vp,F (J ⟨b,0,Y⟩)] W fun e w'=>e = .returned (C (f p))/\Ext W w') :
  Calls Tryz.prog 129 #[v,.func (.func 130) #[] #[F (J ⟨b,0,Y⟩)]] w fun e w'=>e = .returned (C (ps.any f))/\Ext w w':=by
 rw[<-zeN];obtain⟨x,k⟩:=gX (idxB f ps);have i:=fun W (g:Ext w W)=>zjv W v ps b f (h.ext' g) (fun W' d=>j W' (g.trans d))
 obtain⟨a,n,c,rfl⟩:∃a n c,v=O a n c:=by obtain⟨a,c,h⟩:=h.form;exact⟨a,_,c,h⟩
 rw[k]at *;have l:=hd9 i;clear i k h j;go_enter Tryz.func129,Tryz.ntmps129
 go_wp2_with(((go_at_call 181;(with_reducible refine(l.out _ ?_).mono ?_);exact eA;rintro e r ⟨rfl,o⟩)))
 go_ret;exact⟨rfl,eA⟩
theorem zjt(w:X)(v:I)(ps:List Pl)(bq:Nat)(f:Pl->Bool)(h:IsLas w v ps)
  (hf:∀W,Ext w W->∀vp p,p∈ps->IsLa W vp p->Calls Tryz.prog 132 #[vp,F (J ⟨bq,0,Y⟩)] W fun e w'=>e = .returned (C (f p))/\Ext W w') :
  Calls Tryz.prog 181 #[v,.func (.func 132) #[] #[F (J ⟨bq,0,Y⟩)]] w fun e w'=>e = .returned (Z V (idxB f ps))/\Ext w w':=by
 obtain⟨a,c,rfl⟩:=h.form;obtain⟨n,hn⟩:=gX ps.length;rw[hn]at h ⊢;have t:=h.le;unfold maxLen at t;have ar:n<=9223372036854775807:=oM
 have k:=hd9 hn;have Hf:=hd9 hf;clear hn t hf;go_enter Tryz.func181,Tryz.ntmps181;go_wp2
 go_loopg [8] n (IlS w f ps)
 case atStart=>exact⟨0,by omega,rfl,by rw[k.out];rfl,eR _,fun j y z=>by omega⟩
 case round =>
  obtain⟨i,hi,rfl,rfl,hx,l⟩:=hrel;rw[k.out]at hi;have g:=hd9 l;clear l
  by_cases aa:i<n
  ·obtain⟨p,D⟩:∃q,ps[i]?=J q:=⟨ps[i]'(by rw[k.out];omega),by simp[k.out,aa]⟩
   obtain⟨b,o,s,vl,vu,rfl,hb,L,P,Q,d⟩:=(h.ext' hx).at' D;have r:=hd9 (fun W (x:Ext wr W)=>Hf.out W (hx.trans x) (M (lac p s vl vu)) p (lM D) ⟨_,_,_,rfl,L.ext' x,P.ext' x,Q.ext' x⟩);obtain⟨ac,ad,rfl⟩:=L.form;obtain⟨a1,c1,rfl⟩:=P.form;obtain⟨ae,af,rfl⟩:=Q.form;obtain⟨n1,f1⟩:=gX ((lowP2 p).length);obtain⟨m1,f3⟩:=gX ((upP2 p).length);obtain⟨j1,f5⟩:=gX p.shape.length;obtain⟨fp,R⟩:=gX (f p);rw[f1,f3,f5]at d r;rw[R]at r;have F7:=hd9 R;have K:=d 0 (.string p.name) rfl;have ai:=d 1 (O ac j1 ad) rfl;have aj:=d 2 (Z V p.depth) rfl;have ak:=d 3 (Z V p.density) rfl;have al:=d 4 (Z V p.gx) rfl;have am:=d 5 (Z V p.gz) rfl;have an:=d 6 (Z V p.way) rfl;have ao:=d 7 (Z V p.ax) rfl;have ap:=d 8 (Z V p.az) rfl;have aq:=d 9 (Z .u8 p.skin) rfl;have ag:=d 10 (O a1 n1 c1) rfl;have ah:=d 11 (O ae m1 af) rfl;simp only[Nat.add_zero]at K;have Hq:=hd9 D;unfold lac at r;clear D d L P Q f1 f3 f5 R
   cases fp with
   | true =>
    have e:idxB f ps=(i:Int):=zcy Hq.out F7.out g.out;have E:=hd9 e;clear e
    go_wp2_with(((go_at_call 132;(with_reducible refine(r.out _ ?_).mono ?_);exact eA;rintro e w1 ⟨rfl,ab⟩)))
    go_ret;exact⟨by rw[E.out];rfl,eA⟩
   | false =>
    go_wp2_with(((go_at_call 132;(with_reducible refine(r.out _ ?_).mono ?_);exact eA;rintro e w1 ⟨rfl,ab⟩)))
    go_roundg (n-(i+1))
    case measure=>have:=k.out;omega
    case rel =>
     refine⟨i+1,by have:=k.out;omega,by go_num,by rw[k.out],eA,fun j y z u=>?_⟩
     by_cases T:j=i
     ·subst T;rw[Hq.out]at u;cases u;exact F7.out
     ·exact g.out j y oM u
  ·obtain rfl:i=n:=oM
   have e:idxB f ps = -1:=zcx (fun j y z u=>g.out j y (by rw[k.out]at z;exact z) u);have E:=hd9 e;clear e;go_wp2;go_ret;exact⟨by rw[E.out];rfl,hx⟩
theorem ziK(w:X)(v:I)(ps:List Pl)(b:Nat)(f:Pl->Bool)(h:IsLas w v ps)
  (j:∀W,Ext w W->∀vp p,p∈ps->IsLa W vp p->Calls Tryz.prog 132 #[vp,F (J ⟨b,0,Y⟩)] W fun e w'=>e = .returned (C (f p))/\Ext W w') :
  Calls Tryz.prog 129 #[v,.func (.func 132) #[] #[F (J ⟨b,0,Y⟩)]] w fun e w'=>e = .returned (C (ps.any f))/\Ext w w':=by
 rw[<-zeN];obtain⟨x,k⟩:=gX (idxB f ps);have i:=fun W (g:Ext w W)=>zjt W v ps b f (h.ext' g) (fun W' d=>j W' (g.trans d))
 obtain⟨a,n,c,rfl⟩:∃a n c,v=O a n c:=by obtain⟨a,c,h⟩:=h.form;exact⟨a,_,c,h⟩
 rw[k]at *;have l:=hd9 i;clear i k h j;go_enter Tryz.func129,Tryz.ntmps129
 go_wp2_with(((go_at_call 181;(with_reducible refine(l.out _ ?_).mono ?_);exact eA;rintro e r ⟨rfl,o⟩)))
 go_ret;exact⟨rfl,eA⟩
end
section
open Go.RowKit Go.Shelf
attribute [local go_sem] Oper.semAt_some
theorem zdB{x y:Int}(d:0<=x)(e:0<y):Int.gcd y (x % y)=Int.gcd x y:=by
 obtain⟨a,rfl⟩:=Int.eq_ofNat_of_zero_le d;obtain⟨b,rfl⟩:=Int.eq_ofNat_of_zero_le (Int.le_of_lt e);rw[<-Int.natCast_emod,Int.gcd_natCast_natCast,Int.gcd_natCast_natCast,Nat.gcd_comm b,<-Nat.gcd_rec,Nat.gcd_comm]
theorem zfm{x:Int}(b:0<=x):(Int.gcd x 0:Int)=x:=by rw[Int.gcd_zero_right];omega
theorem zlc(x y:Int):Int.gcd (x.natAbs:Int) (y.natAbs:Int)=Int.gcd x y:=by simp[Int.gcd]
def GcS(w:X)(G:Nat)(g:Nat)(W:X):Prop:=
 ∃x y:Int,0<=x/\0<=y/\Int.gcd x y=G/\g=y.toNat/\Lm limE x/\Lm limE y/\Ext w W/\NB W w.heap.size x/\NB W (w.heap.size+1) y /\
  W.heap[w.heap.size+1+1]?=J (N #[Z V 0,O Y 0 0] 66 (0,0))
theorem GcS.ext{w W W':X}{G g:Nat}(h:GcS w G g W)(k:Ext W W'):GcS w G g W':=by
 obtain⟨x,y,d,e,f,i,j,h6,l,n,o,b⟩:=h;exact⟨x,y,d,e,f,i,j,h6,l.trans k,n.ext k,o.ext k,k.heapS b⟩
def VgS(d:X)(G:Nat)(t5 b:I)(W:X):Prop:=
 ∃u v:Int,t5=Z V u/\b=Z V v/\0<=u/\0<=v/\u<=10000000000000000/\v<=10000000000000000/\Int.gcd u v=G/\Ext d W
theorem zle(w:X)(va vb:I)(na nb:Int)(ha:IsN w va na)(hb:IsN w vb nb)(aw:Lm limE na)(az:Lm limE nb) :
  Calls Tryz.prog 194 #[va,vb] w (RetN w (Int.gcd na nb:Int)):=by
 obtain⟨s,a,m,c,rfl,hs⟩:=ha.form2;obtain⟨s',a',m',c',rfl,aK⟩:=hb.form2;obtain⟨G,hG⟩:=gX (Int.gcd na nb);rw[hG];have HG:=hd9 hG;have aF:=hd9 aw;have aG:=hd9 az;clear hs aK hG aw az;go_enter Tryz.func194,Tryz.ntmps194;go_wp2;obtain⟨W0,d⟩:=gX (((w.alloc (N #[Z V s,O a m c] 66)).alloc (N #[Z V s',O a' m' c'] 66)).alloc (N #[Z V 0,O Y 0 0] 66));have X0:Ext w W0:=by rw[<-d];exact(((eR w).alloc _).alloc _).alloc _
 have aC:NB W0 w.heap.size na:=by rw[<-d];exact(NB.new (W0:=w) ha rfl).ext (((eR _).alloc _).alloc _)
 have aD:NB W0 (w.heap.size+1) nb:=by rw[<-d];exact(NB.new (W0:=w.alloc (N #[Z V s,O a m c] 66)) (hb.ext ((eR _).alloc _)) sM).ext ((eR _).alloc _)
 have ak:W0.heap[w.heap.size+1+1]?=J (N #[Z V 0,O Y 0 0] 66 (0,0)):=by rw[<-d];exact qhA _ _ _ sM
 have p0:W0.cell? ⟨w.heap.size,0,Y⟩=J (Z V s):=by rw[<-d];clear d;go_simp
 have p1:W0.cell? ⟨w.heap.size,1,Y⟩=J (O a m c):=by rw[<-d];clear d;go_simp
 have q0:W0.cell? ⟨w.heap.size+1,0,Y⟩=J (Z V s'):=by rw[<-d];clear d;go_simp
 have q1:W0.cell? ⟨w.heap.size+1,1,Y⟩=J (O a' m' c'):=by rw[<-d];clear d;go_simp
 have f0:W0.frozen? ⟨w.heap.size,0,Y⟩=false:=by rw[<-d];clear d;go_simp
 have f1:W0.frozen? ⟨w.heap.size,1,Y⟩=false:=by rw[<-d];clear d;go_simp
 have f2:W0.frozen? ⟨w.heap.size+1,0,Y⟩=false:=by rw[<-d];clear d;go_simp
 have f3:W0.frozen? ⟨w.heap.size+1,1,Y⟩=false:=by rw[<-d];clear d;go_simp
 have z0:=zaa ak;have z1:w.heap.size<W0.heap.size:=oM
 have z2:w.heap.size+1<W0.heap.size:=oM
 rw[d];clear d;refine zae (fun i=>decide (3<i)) (CellL [(⟨w.heap.size,0,Y⟩,Z V s),(⟨w.heap.size,1,Y⟩,O a m c),(⟨w.heap.size+1,0,Y⟩,Z V s'),(⟨w.heap.size+1,1,Y⟩,O a' m' c')]) kM ?_ (fun f=>?_)
 ·exact cA
 refine tu1 (i:=0) ?_;refine tu1 (i:=2) ?_;refine cu1 (i:=1) fun K k=>?_
 go_simp
 (with_reducible refine cM (zgU _ (M #[Z V s,O a m c]) na (ha.ext X0.drew)) ?_)
 rintro e w1 ⟨r1,rfl,o,R⟩;obtain⟨s1,a1,m1,c1,rfl,-⟩:=o.form2
 go_wp2_with fail
 refine kO k (fun _=>cE f R) (fun f=>?_);clear k K
 replace f:=f rfl
 refine cu1 (i:=3) fun K k=>?_
 go_simp
 (with_reducible refine cM (zgU _ (M #[Z V s',O a' m' c']) nb (hb.ext (X0.drew.trans R))) ?_)
 rintro e w2 ⟨r2,rfl,n,ad⟩;obtain⟨s2,a2,m2,c2,rfl,-⟩:=n.form2
 go_wp2_with fail
 refine kO k (fun _=>cE f ad) (fun f=>?_);clear k K
 replace f:=f rfl
 have X2:Ext W0 w2:=(eR W0).drew.trans (R.trans ad);have y1:w.heap.size<w2.heap.size:=X2.lt z1;have y2:w.heap.size+1<w2.heap.size:=X2.lt z2;obtain⟨aH,aI⟩:=X2.cells;refine cu1 (i:=4) fun K k=>?_
 go_simp;refine kO k (fun h=>nomatch h) (fun f=>?_);clear k K;refine cu1 (i:=5) fun K k=>?_
 go_simp;refine kO k (fun h=>nomatch h) (fun f=>?_);clear k K;refine doneHU kM ?_ _;have L:=aC.ext X2;have af:=aD.ext X2;have aE:=X2.heapS ak;have aq:=X0.trans X2;go_wp2
 go_loopg [7] ((nb.natAbs:Int).toNat) (fun g _ W=>GcS w G g W)
 case atStart =>
  refine⟨(na.natAbs:Int),(nb.natAbs:Int),by omega,by omega,by rw[zlc,HG.out],rfl,aF.out.abs,aG.out.abs,?_,?_,?_,?_⟩
  ·exact(((aq.set (p:=⟨w.heap.size,0,Y⟩) sM _).set (p:=⟨w.heap.size,1,Y⟩) sM _).set (p:=⟨w.heap.size+1,0,Y⟩) sM _).set (p:=⟨w.heap.size+1,1,Y⟩) sM _
  ·exact((L.put (o.ext ad)).other (p:=⟨w.heap.size+1,0,Y⟩) sM ((af.not.set _ _).set _ _) _).other (p:=⟨w.heap.size+1,1,Y⟩) sM (((af.not.set _ _).set _ _).set _ _) _
  ·exact((af.other (p:=⟨w.heap.size,0,Y⟩) sM L.not _).other (p:=⟨w.heap.size,1,Y⟩) sM (L.not.set _ _) _).put (n.keep (((KeepT.refl _ w2).setN L.not _).setN (L.not.set _ _) _))
  ·rw[bS _ _ _ _ sM,bS _ _ _ _ sM,bS _ _ _ _ dO,bS _ _ _ _ dO]
   exact aE
 case round =>
  clear L af aE aq aH aI X2 y1 y2 o n R ad aC aD ak p0 p1 q0 q1 f0 f1 f2 f3 z0 z1 z2 X0 f HG;obtain⟨x,y,ac,aM,hG,rfl,ar,au,hx,ai,aj,l⟩:=hrel;have HG:=hd9 hG;have am:=hd9 ar;have z:=hd9 au;have an:=hd9 ai;have ao:=hd9 aj;obtain⟨sx,ax,mx,cx,aL,x0,x1,a4,a6,x2,aa⟩:=ai.rd;obtain⟨sy,ay,my,cy,ab,y0,y1,a7,a8,y2,D⟩:=aj.rd;have r0:=qcB l (i:=0) (u:=Z V 0) rfl;have r1:=qcB l (i:=1) (u:=O Y 0 0) rfl;have aZ:=qfB l 0;have a0:=qfB l 1;have rz:=zaa l;have t:=hd9 l;clear hG ar au ai aj l aL
  by_cases aO:y=0
  ·subst aO
   obtain rfl:sy=0:=by rw[ab];rfl
   clear ab;go_wp2;refine bR (v:=M #[Z V sx,O ax mx cx]) (by simp[results,Tryz.results194,go_sem,rz,r0,r1]) rfl ⟨_,rfl,?_,eA⟩;rw[<-HG.out,zfm ac];exact aa.keep (zcl t.out _ _)
  ·have r:0<y:=oM
   obtain rfl:sy=1:=by rw[ab];exact Int.sign_eq_one_of_pos r
   clear ab
   by_cases aV:mx<=4
   ·by_cases aW:my<=4
    ·obtain⟨xs,xl,xi,xc,xv⟩:=aa.open
     obtain⟨ys,yl,yi,yc,yv⟩:=D.open
     have bx:x<10000000000000000:=by
      have h1:=(zak zbk xc.1).2;have h2:=zaD (b:=C4) dM (show xs.length<=4 by omega);have h3:C4 ^ 4=10000000000000000:=dM
      omega
     have bY:y<10000000000000000:=by
      have h1:=(zak zbk yc.1).2;have h2:=zaD (b:=C4) dM (show ys.length<=4 by omega);have h3:C4 ^ 4=10000000000000000:=dM
      omega
     clear xl xi xc xv yl yi yc yv;go_wp2
     go_region_held3 (fun W=>W.cell? ⟨w.heap.size,0,Y⟩=J (Z V sx)/\W.cell? ⟨w.heap.size,1,Y⟩=J (O ax mx cx)/\W.cell? ⟨w.heap.size+1,0,Y⟩=J (Z V 1)/\W.cell? ⟨w.heap.size+1,1,Y⟩=J (O ay my cy)) ((repeat' (with_reducible refine And.intro ?_ ?_))<;>(first|(go_simp;done)|(refine R.cellS ?_;go_simp;done))) (first|(go_at_call 141;(with_reducible refine(zeu _ (M #[Z V sx,O ax mx cx]) x ?_ oM oM).mono ?_);(refine aa.ext ?_;exact(eR wr).drew);rintro e w8 ⟨rfl,T⟩;obtain⟨aR,aT⟩:=cK0 T;(have z8:w.heap.size<w8.heap.size:=T.lt x2);(have aQ:w.heap.size+1<w8.heap.size:=T.lt y2))|(go_at_call 141;(with_reducible refine(zeu _ (M #[Z V 1,O ay my cy]) y ?_ oM oM).mono ?_);(refine D.ext ?_;exact(eR wr).drew.trans T);rintro e w9 ⟨rfl,ae⟩;obtain⟨aS,aU⟩:=cK0 ae;(have z9:w.heap.size<w9.heap.size:=ae.lt z8);(have a9:w.heap.size+1<w9.heap.size:=ae.lt aQ)))
     all_goals go_wp2
     have X9:Ext wr w9:=(eR wr).drew.trans (T.trans ae);have P:=X9.heapS t.out;obtain⟨wo,rfl⟩:∃wo:X,wo=wr:=⟨_,rfl⟩
     go_loopw [5,6] (VgS w9 G) (fun _ t6 _=>(intOf t6).toNat)
     case atStart=>exact⟨x,y,rfl,rfl,ac,aM,by omega,by omega,HG.out,eR _⟩
     case round =>
      obtain⟨u,v,rfl,rfl,u0,v0,u1,v1,hG,Xi⟩:=hrel;have al:=hd9 hG;clear hG
      by_cases hv:v=0
      ·subst hv
       have e:u=(G:Int):=by rw[<-al.out,zfm u0]
       have t0:=qcB (Xi.heapS P) (i:=0) (u:=Z V 0) rfl;have t1:=qcB (Xi.heapS P) (i:=1) (u:=O Y 0 0) rfl;have a3:=qfB (Xi.heapS P) 0;have tf1:=qfB (Xi.heapS P) 1;have tz:=zaa (Xi.heapS P);have XF:Ext w wr:=hx.trans (X9.trans Xi);have E:=hd9 e;clear e
       go_wp2_with(go_at_call 96;(with_reducible refine(zbm _ u oM oM).mono ?_);rintro e Q ⟨r5,rfl,aA,j⟩;obtain⟨s5,a5,m5,c5,rfl,-⟩:=aA.form2;obtain⟨ah,av⟩:=j.cells)
       refine bR (v:=M #[Z V s5,O a5 m5 c5]) (by simp[results,Tryz.results194,go_sem,ah,tz,t0,t1]) rfl ⟨_,rfl,?_,eA⟩;rw[<-E.out];exact aA.keep (zcl (j.heapS (Xi.heapS P)) _ _)
      ·have aX:(v != 0)=true:=by simpa using hv
       have aB:0<v:=oM
       obtain⟨rm,aJ⟩:=gX (Int.tmod u v);have ag:rm=u % v:=by rw[<-aJ,Int.tmod_eq_emod_of_nonneg u0]
       have k1:=Int.emod_lt_of_pos u aB;have k2:=Int.emod_nonneg u (show v≠0 by omega);have r9:0<=rm:=oM
       have r8:rm<v:=oM
       have ap:=hd9 ag;have aY:(v==0)=false:=by simpa using hv
       clear ag k1 k2;go_wp2
       go_quiet (fail)
       go_wp2
       go_roundw
       case rel=>exact⟨v,rm,rfl,rfl,by omega,r9,v1,by omega,by rw[ap.out,zdB u0 aB,al.out],eA⟩
       case measure=>simp[intOf];omega
    ·have h4:¬(my:Int)<=4:=oM
     have h5:(mx:Int)<=4:=oM
     go_wp2_with(go_at_call 142;(with_reducible refine(zdg _ (M #[Z V sx,O ax mx cx]) (M #[Z V 1,O ay my cy]) x y aa D am.out z.out oM).mono ?_);rintro e Q ⟨r1,r2,rfl,o,n,j⟩;obtain⟨s1,a1,m1,c1,rfl,-⟩:=o.form2;obtain⟨s2,a2,m2,c2,rfl,-⟩:=n.form2;obtain⟨ah,av⟩:=j.cells;(have z5:w.heap.size<Q.heap.size:=j.lt x2);(have aP:w.heap.size+1<Q.heap.size:=j.lt y2))
     refine zae (fun i=>decide (2<i)) (CellL [(⟨w.heap.size+1,0,Y⟩,Z V 1),(⟨w.heap.size+1,1,Y⟩,O ay my cy),(⟨Q.heap.size+1,0,Y⟩,Z V s2),(⟨Q.heap.size+1,1,Y⟩,O a2 m2 c2)]) kM ?_ (fun f=>?_)
     ·exact cA
     refine sN 0 ?_
     iterate 2
      refine tun ?_
     refine oN ?_;refine cu1 (i:=2) fun K k=>?_
     go_simp;refine kO k (fun _=>?_) (fun f=>?_)
     ·exact cA
     clear k K
     replace f:=f rfl
     refine cu1 (i:=3) fun K k=>?_
     go_simp;refine kO k (fun h=>nomatch h) (fun f=>?_);clear k K;refine doneHU kM ?_ _;go_wp2
     go_roundg ((x % y).toNat)
     case measure=>have:=Int.emod_lt_of_pos x r;have:=Int.emod_nonneg x (show y≠0 by omega);omega
     case rel =>
      have k1:=Int.emod_lt_of_pos x r;have k2:=Int.emod_nonneg x (show y≠0 by omega);have nx:=an.out.ext j;have ny:=ao.out.ext j;refine GcS.ext ?_ (((eR _).alloc _).alloc _).drew;refine⟨y,x % y,by omega,k2,by rw[zdB ac r,HG.out],rfl,z.out,?_,?_,?_,?_,?_⟩
      ·have:=z.out
       unfold Lm at *;omega
      ·exact((((hx.trans j).set (p:=⟨w.heap.size,0,Y⟩) sM _).set (p:=⟨w.heap.size,1,Y⟩) sM _).set (p:=⟨w.heap.size+1,0,Y⟩) sM _).set (p:=⟨w.heap.size+1,1,Y⟩) sM _
      ·exact((nx.put (D.ext j)).other (p:=⟨w.heap.size+1,0,Y⟩) sM ((ny.not.set _ _).set _ _) _).other (p:=⟨w.heap.size+1,1,Y⟩) sM (((ny.not.set _ _).set _ _).set _ _) _
      ·refine((ny.other (p:=⟨w.heap.size,0,Y⟩) sM nx.not _).other (p:=⟨w.heap.size,1,Y⟩) sM (nx.not.set _ _) _).put (n.keep (((KeepT.refl _ Q).setN nx.not _).setN (nx.not.set _ _) _))
      ·rw[bS _ _ _ _ sM,bS _ _ _ _ sM,bS _ _ _ _ dO,bS _ _ _ _ dO]
       exact j.heapS t.out
   ·have h5:¬(mx:Int)<=4:=oM
    go_wp2_with(go_at_call 142;(with_reducible refine(zdg _ (M #[Z V sx,O ax mx cx]) (M #[Z V 1,O ay my cy]) x y aa D am.out z.out oM).mono ?_);rintro e Q ⟨r1,r2,rfl,o,n,j⟩;obtain⟨s1,a1,m1,c1,rfl,-⟩:=o.form2;obtain⟨s2,a2,m2,c2,rfl,-⟩:=n.form2;obtain⟨ah,av⟩:=j.cells;(have z5:w.heap.size<Q.heap.size:=j.lt x2);(have aP:w.heap.size+1<Q.heap.size:=j.lt y2))
    refine zae (fun i=>decide (2<i)) (CellL [(⟨w.heap.size+1,0,Y⟩,Z V 1),(⟨w.heap.size+1,1,Y⟩,O ay my cy),(⟨Q.heap.size+1,0,Y⟩,Z V s2),(⟨Q.heap.size+1,1,Y⟩,O a2 m2 c2)]) kM ?_ (fun f=>?_)
    ·exact cA
    refine sN 0 ?_
    iterate 2
     refine tun ?_
    refine oN ?_;refine cu1 (i:=2) fun K k=>?_
    go_simp;refine kO k (fun _=>?_) (fun f=>?_)
    ·exact cA
    clear k K
    replace f:=f rfl
    refine cu1 (i:=3) fun K k=>?_
    go_simp;refine kO k (fun h=>nomatch h) (fun f=>?_);clear k K;refine doneHU kM ?_ _;go_wp2
    go_roundg ((x % y).toNat)
    case measure=>have:=Int.emod_lt_of_pos x r;have:=Int.emod_nonneg x (show y≠0 by omega);omega
    case rel =>
     have k1:=Int.emod_lt_of_pos x r;have k2:=Int.emod_nonneg x (show y≠0 by omega);have nx:=an.out.ext j;have ny:=ao.out.ext j;refine GcS.ext ?_ (((eR _).alloc _).alloc _).drew;refine⟨y,x % y,by omega,k2,by rw[zdB ac r,HG.out],rfl,z.out,?_,?_,?_,?_,?_⟩
     ·have:=z.out
      unfold Lm at *;omega
     ·exact((((hx.trans j).set (p:=⟨w.heap.size,0,Y⟩) sM _).set (p:=⟨w.heap.size,1,Y⟩) sM _).set (p:=⟨w.heap.size+1,0,Y⟩) sM _).set (p:=⟨w.heap.size+1,1,Y⟩) sM _
     ·exact((nx.put (D.ext j)).other (p:=⟨w.heap.size+1,0,Y⟩) sM ((ny.not.set _ _).set _ _) _).other (p:=⟨w.heap.size+1,1,Y⟩) sM (((ny.not.set _ _).set _ _).set _ _) _
     ·refine((ny.other (p:=⟨w.heap.size,0,Y⟩) sM nx.not _).other (p:=⟨w.heap.size,1,Y⟩) sM (nx.not.set _ _) _).put (n.keep (((KeepT.refl _ Q).setN nx.not _).setN (nx.not.set _ _) _))
     ·rw[bS _ _ _ _ sM,bS _ _ _ _ sM,bS _ _ _ _ dO,bS _ _ _ _ dO]
      exact j.heapS t.out
theorem zd1(w:X)(v:I)(q:Rat)(h:IsR w v q)(j:Rb limT q) :
  Calls Tryz.prog 97 #[v] w fun e w'=>e = .returned (.string ⟨(textR q).toArray⟩)/\Ext w w':=by
 obtain⟨a,m,c,s,a2,m2,c2,rfl⟩:=h.form;have k:=hd9 (fun(W:X)(r:Ext w W)=>zaB W (M #[O a2 m2 c2]) _ (h.rest.ext r));have D:=hd9 (fun(W:X)(r:Ext w W)=>zf1 W (M #[O a m c,C s]) q.num (h.top.ext r) j.1);have Q:=hd9 (fun(W:X)(r:Ext w W)=>zaH W _ q (h.ext r) (j.mono dM));have z:=hd9 (fun(W:X)(v:I)(hv:IsZ W v (q.den:Int))=>zf1 W v (q.den:Int) hv j.2);have l1:=zbA j.1;have l2:=zbA j.2;unfold textR;obtain⟨R,o⟩:=gX (textZ q.num);obtain⟨T2,p⟩:=gX (textZ (q.den:Int));rw[o]at D l1 ⊢;rw[p]at z l2 ⊢;unfold limT at l1 l2;obtain⟨d,hd⟩:=gX q.den;rw[hd]at k Q z ⊢;clear o p hd h j
 by_cases n:d=1
 ·have l:(((d:Nat):Int)-1==0)=true:=by simp[n]
  rw[l]at k;rw[if_pos n];clear l n;go_enter Tryz.func97,Tryz.ntmps97
  go_wp2_with(first|(go_at_call 166;(with_reducible refine(k.out _ ?_).mono ?_);exact eA;rintro e w1 ⟨rfl,g⟩;obtain⟨L,P⟩:=g.cells)|(go_at_call 167;(with_reducible refine(D.out _ ?_).mono ?_);exact eA;rintro e w2 ⟨rfl,u⟩))
  go_ret;exact⟨rfl,eA⟩
 ·have l:(((d:Nat):Int)-1==0)=false:=by simp;omega
  rw[l]at k;rw[if_neg n];clear l n;go_enter Tryz.func97,Tryz.ntmps97;have g1:¬9223372036854775807<R.length+1:=oM
  have g2:¬9223372036854775807<R.length+1+T2.length:=oM
  go_upto_region 3 with (first|(go_at_call 166;(with_reducible refine(k.out _ ?_).mono ?_);exact eA;rintro e w1 ⟨rfl,g⟩;obtain⟨L,P⟩:=g.cells))
  refine wp_region_held_drew (S:=CellL [(⟨w.heap.size,0,Y⟩,O a m c),(⟨w.heap.size,1,Y⟩,C s),(⟨w.heap.size,2,Y⟩,O a2 m2 c2)]) kM cA (fun b=>?_);refine sN 0 ?_
  iterate 2
   refine tkn ?_
  refine oN ?_;refine tk1 (i:=4) ?_;refine cl1 (i:=2) fun K f=>?_
  go_simp
  (with_reducible refine cM (D.out _ eA) ?_)
  rintro e w2 ⟨rfl,u⟩
  skip
  go_wp2_with fail
  refine kO f (cE b u) (fun b=>?_);clear f K;have T:Ext w w2:=eA;refine tk1 (i:=3) ?_;refine cl1 (i:=5) fun K f=>?_
  go_simp
  (with_reducible refine cM (Q.out _ T) ?_)
  rintro e w5 ⟨r5,rfl,t,x⟩;obtain⟨a5,m5,c5,s5,rfl⟩:=t.form
  go_wp2_with fail
  refine kO f (cE b x) (fun b=>?_);clear f K;have X5:Ext w w5:=T.trans x;refine cl1 (i:=6) fun K f=>?_
  go_simp
  (with_reducible refine cM (z.out _ _ t) ?_)
  rintro e w6 ⟨rfl,y⟩
  skip
  go_wp2_with fail
  refine kO f (cE b y) (fun b=>?_);clear f K;refine sN 7 ?_
  iterate 2
   refine tkn ?_
  refine oN ?_;refine wpAnyH_done kM ?_ _;go_wp2;go_ret;exact⟨by rw[show (⟨#[47]⟩:ByteArray)=⟨[47].toArray⟩from rfl,za1,za1];simp,X5.trans y⟩
theorem zfZ(w:X)(Q R:I)(x z:Rat)(y:IsR w Q x)(D:IsR w R z)(d:Rb limT x)(f:Rb limT z) :
  ∀v,(∃a m c s a2 m2 c2 a' m' c' s' a2' m2' c2',Q=M #[O a m c,C s,O a2 m2 c2]/\R=M #[O a' m' c',C s',O a2' m2' c2']/\v=M #[O a m c,C s,O a2 m2 c2,O a' m' c',C s',O a2' m2' c2']) ->
  Calls Tryz.prog 48 #[v] w fun e w'=>e = .returned (.string ⟨(textV x z).toArray⟩)/\Ext w w':=by
 rintro v ⟨a,m,c,s,a2,m2,c2,a',m',c',s',a2',m2',c2',rfl,rfl,rfl⟩;have HX:=hd9 (fun(W:X)(o:Ext w W)=>zd1 W _ x (y.ext o) d);have r:=hd9 (fun(W:X)(o:Ext w W)=>zd1 W _ z (D.ext o) f);have L:=zfT d;have P:=zfT f;unfold textV;obtain⟨n,j⟩:=gX (textR x);obtain⟨t,k⟩:=gX (textR z);rw[j]at HX L ⊢;rw[k]at r P ⊢;unfold limT at L P;clear j k y D d f;have g1:¬9223372036854775807<1+n.length:=oM
 have g2:¬9223372036854775807<1+n.length+2:=oM
 have g3:¬9223372036854775807<1+n.length+2+t.length:=oM
 have g4:¬9223372036854775807<1+n.length+2+t.length+1:=oM
 go_enter Tryz.func48,Tryz.ntmps48;go_wp2;refine wp_region_held_drew (S:=CellL [(⟨w.heap.size,0,Y⟩,O a m c),(⟨w.heap.size,1,Y⟩,C s),(⟨w.heap.size,2,Y⟩,O a2 m2 c2),(⟨w.heap.size,3,Y⟩,O a' m' c'),(⟨w.heap.size,4,Y⟩,C s'),(⟨w.heap.size,5,Y⟩,O a2' m2' c2')]) kM cA (fun b=>?_);refine sN 0 ?_
 iterate 2
  refine tkn ?_
 refine oN ?_;refine sN 5 ?_
 iterate 2
  refine tkn ?_
 refine oN ?_;refine cl1 (i:=2) fun K g=>?_
 go_simp
 (with_reducible refine cM (HX.out _ eA) ?_)
 rintro e T ⟨rfl,p⟩
 skip
 go_wp2_with fail
 refine kO g (cE b p) (fun b=>?_);clear g K;have u:Ext w T:=eA;refine sN 3 ?_
 iterate 2
  refine tkn ?_
 refine oN ?_;refine cl1 (i:=7) fun K g=>?_
 go_simp
 (with_reducible refine cM (r.out _ u) ?_)
 rintro e w7 ⟨rfl,l⟩
 skip
 go_wp2_with fail
 refine kO g (cE b l) (fun b=>?_);clear g K;refine sN 8 ?_
 iterate 3
  refine tkn ?_
 refine oN ?_;refine wpAnyH_done kM ?_ _;go_wp2;go_ret;exact⟨by rw[show (⟨#[40]⟩:ByteArray)=⟨[40].toArray⟩from rfl,show (⟨#[44,32]⟩:ByteArray)=⟨[44,32].toArray⟩from rfl,show (⟨#[41]⟩:ByteArray)=⟨[41].toArray⟩from rfl,za1,za1,za1,za1];simp,u.trans l⟩
def IsQ(w:X)(v:I)(q:Rat):Prop:=
 ∃s a m c s2 a2 m2 c2,v=M #[Z V s,O a m c,Z V s2,O a2 m2 c2]/\IsN w (M #[Z V s,O a m c]) q.num/\(IsN w (M #[Z V s2,O a2 m2 c2]) (q.den:Int)\/(s2=0/\q.den=1))
section
variable {w w':X} {v:I} {q:Rat} {s s2:Int} {a a2:Option Addr} {m c m2 c2:Nat}
theorem IsQ.ext(h:IsQ w v q)(k:Ext w w'):IsQ w' v q:=by
 obtain⟨s,a,m,c,s2,a2,m2,c2,rfl,b,d⟩:=h;exact⟨s,a,m,c,s2,a2,m2,c2,rfl,b.ext k,d.imp (·.ext k) id⟩
theorem IsQ.keep(h:IsQ w v q)(k:KeepT 3 w w'):IsQ w' v q:=by
 obtain⟨s,a,m,c,s2,a2,m2,c2,rfl,b,d⟩:=h;exact⟨s,a,m,c,s2,a2,m2,c2,rfl,b.keep k,d.imp (·.keep k) id⟩
theorem IsQ.form(h:IsQ w v q):∃s a m c s2 a2 m2 c2,v=M #[Z V s,O a m c,Z V s2,O a2 m2 c2]:=by
 obtain⟨s,a,m,c,s2,a2,m2,c2,rfl,b,d⟩:=h;exact⟨_,_,_,_,_,_,_,_,rfl⟩
theorem IsQ.top(h:IsQ w (M #[Z V s,O a m c,Z V s2,O a2 m2 c2]) q):IsN w (M #[Z V s,O a m c]) q.num:=by
 obtain⟨s,a,m,c,s2,a2,m2,c2,e,b,d⟩:=h;cases e;exact b
theorem IsQ.bot(h:IsQ w (M #[Z V s,O a m c,Z V s2,O a2 m2 c2]) q):IsN w (M #[Z V s2,O a2 m2 c2]) (q.den:Int)\/(s2=0/\q.den=1):=by
 obtain⟨s,a,m,c,s2,a2,m2,c2,e,d,b⟩:=h;cases e;exact b
theorem IsQ.mk(b:IsN w (M #[Z V s,O a m c]) q.num)(d:IsN w (M #[Z V s2,O a2 m2 c2]) (q.den:Int)):IsQ w (M #[Z V s,O a m c,Z V s2,O a2 m2 c2]) q:=
 ⟨_,_,_,_,_,_,_,_,rfl,b,.inl d⟩
theorem IsQ.zero(w:X):IsQ w (M #[Z V 0,O Y 0 0,Z V 0,O Y 0 0]) 0:=⟨_,_,_,_,_,_,_,_,rfl,IsN.nil w,.inr ⟨rfl,rfl⟩⟩
end
def RetQr(w:X)(q:Rat)(e:Ending)(w':X):Prop:=∃r,e = .returned r/\IsQ w' r q/\Ext w w'
def limQ:Nat:=100000
theorem znz(q:Rat):(q.den:Int).sign=1:=Int.sign_eq_one_of_pos (den_pos q)
theorem zaU(w:X)(v:I)(q:Rat)(h:IsQ w v q):Calls Tryz.prog 81 #[v] w (RetN w (q.den:Int)):=by
 obtain⟨s,a,m,c,s2,a2,m2,c2,rfl⟩:=h.form
 rcases h.bot with b|⟨rfl,b⟩
 ·obtain rfl:s2=1:=by rw[b.sgn,znz]
  go_enter Tryz.func81,Tryz.ntmps81;go_wp2;exact bR (v:=M #[Z V 1,O a2 m2 c2]) (by simp[results,Tryz.results81,go_sem]) rfl ⟨_,rfl,b.ext eA,eA⟩
 ·rw[b]
  clear b;go_enter Tryz.func81,Tryz.ntmps81
  go_wp2_with(go_at_call 96;(with_reducible refine(zbm _ 1 dM dM).mono ?_);rintro e t ⟨r,rfl,d,i⟩;obtain⟨p,k,o,l,rfl,-⟩:=d.form2;obtain⟨⟨g,n⟩,j,f⟩:=cK2 w i)
  exact bR (v:=M #[Z V p,O k o l]) (by simp[results,Tryz.results81,go_sem,g,f]) rfl ⟨_,rfl,d.keep kA,eA⟩
theorem zgg(w:X)(n:Int)(r : -9223372036854775808<=n)(t:n<=9223372036854775807):Calls Tryz.prog 34 #[Z V n] w (RetQr w (n:Rat)):=by
 go_enter Tryz.func34,Tryz.ntmps34
 go_wp2_with(first|(go_at_call 96;(with_reducible refine(zbm _ n r t).mono ?_);rintro e L ⟨D,rfl,b,l⟩;obtain⟨z,o,y,p,rfl,-⟩:=b.form2;obtain⟨⟨j,u⟩,g⟩:=cK1 w l)|(go_at_call 96;(with_reducible refine(zbm _ 1 dM dM).mono ?_);rintro e P ⟨K,rfl,d,f⟩;obtain⟨s2,a2,m2,c2,rfl,-⟩:=d.form2;obtain⟨⟨k,x⟩,i⟩:=cK1 w f))
 exact bR (v:=M #[Z V z,O o y p,Z V s2,O a2 m2 c2]) (by simp[results,Tryz.results34,go_sem,j,k,g,i]) rfl ⟨_,rfl,IsQ.keep (IsQ.mk (q:=(n:Rat)) (b.ext f) d) kA,eA⟩
def OzC(w:X)(q:Rat)(W:X):Prop:=
 ∃n d:Int,0<d/\Rat.divInt n d=q/\Lm limE n/\Lm limE d/\NB W w.heap.size n/\NB W (w.heap.size+1) d/\Ext w W /\
  W.heap[w.heap.size+1+1]?=J (N #[Z V 0,O Y 0 0,Z V 0,O Y 0 0] 68 (0,0))
def OzD(w:X)(q:Rat)(W:X):Prop:=
 NB W w.heap.size q.num/\NB W (w.heap.size+1) (q.den:Int)/\Ext w W /\
  W.heap[w.heap.size+1+1]?=J (N #[Z V 0,O Y 0 0,Z V 0,O Y 0 0] 68 (0,0))
theorem zbR{W:X}{b b':Nat}{n g:Int}(h:NB W b n)(f:NB W b' g)(d:b≠b')(u v:I):NB ((W.setCell ⟨b',0,Y⟩ u).setCell ⟨b',1,Y⟩ v) b n:=
 (h.other (p:=⟨b',0,Y⟩) (fun e=>d e.symm) f.not _).other (p:=⟨b',1,Y⟩) (fun e=>d e.symm) (f.not.set _ _) _
theorem zaL{W:X}{b b':Nat}{o:Obj}(h:W.heap[b]?=J o)(d:b≠b')(u v:I):((W.setCell ⟨b',0,Y⟩ u).setCell ⟨b',1,Y⟩ v).heap[b]?=J o:=by
 rw[bS _ _ _ _ d,bS _ _ _ _ d];exact h
theorem zde{w W:X}{b:Nat}(h:Ext w W)(d:w.heap.size<=b)(u v:I):Ext w ((W.setCell ⟨b,0,Y⟩ u).setCell ⟨b,1,Y⟩ v):=(h.set (p:=⟨b,0,Y⟩) d _).set (p:=⟨b,1,Y⟩) d _
theorem zeK(w:X)(va vb:I)(na nb:Int)(ha:IsN w va na)(hb:IsN w vb nb)(aT:Lm limE na)(aU:Lm limE nb)(hd:nb≠0) :
  Calls Tryz.prog 146 #[va,vb] w (RetQr w (Rat.divInt na nb)):=by
 obtain⟨s,a,m,c,rfl,hs⟩:=ha.form2;obtain⟨s',a',m',c',rfl,aY⟩:=hb.form2;obtain⟨q,hq⟩:=gX (Rat.divInt na nb);rw[hq];have Hq:=hd9 hq;have al:=hd9 aT;have am:=hd9 aU;have aq:=hd9 aY;clear hs aY hq aT aU;go_enter Tryz.func146,Tryz.ntmps146
 go_upto_if 8 with fail
 obtain⟨W0,b⟩:=gX (((w.alloc (N #[Z V s,O a m c] 66)).alloc (N #[Z V s',O a' m' c'] 66)).alloc (N #[Z V 0,O Y 0 0,Z V 0,O Y 0 0] 68));have X0:Ext w W0:=by rw[<-b];exact(((eR w).alloc _).alloc _).alloc _
 have az:NB W0 w.heap.size na:=by rw[<-b];exact(NB.new (W0:=w) ha rfl).ext (((eR _).alloc _).alloc _)
 have aA:NB W0 (w.heap.size+1) nb:=by rw[<-b];exact(NB.new (W0:=w.alloc (N #[Z V s,O a m c] 66)) (hb.ext ((eR _).alloc _)) sM).ext ((eR _).alloc _)
 have ag:W0.heap[w.heap.size+1+1]?=J (N #[Z V 0,O Y 0 0,Z V 0,O Y 0 0] 68 (0,0)):=by rw[<-b];exact qhA _ _ _ sM
 have p0:W0.cell? ⟨w.heap.size,0,Y⟩=J (Z V s):=by rw[<-b];clear b;go_simp
 have p1:W0.cell? ⟨w.heap.size,1,Y⟩=J (O a m c):=by rw[<-b];clear b;go_simp
 have q0:W0.cell? ⟨w.heap.size+1,0,Y⟩=J (Z V s'):=by rw[<-b];clear b;go_simp
 have q1:W0.cell? ⟨w.heap.size+1,1,Y⟩=J (O a' m' c'):=by rw[<-b];clear b;go_simp
 have f0:W0.frozen? ⟨w.heap.size,0,Y⟩=false:=by rw[<-b];clear b;go_simp
 have f1:W0.frozen? ⟨w.heap.size,1,Y⟩=false:=by rw[<-b];clear b;go_simp
 have f2:W0.frozen? ⟨w.heap.size+1,0,Y⟩=false:=by rw[<-b];clear b;go_simp
 have f3:W0.frozen? ⟨w.heap.size+1,1,Y⟩=false:=by rw[<-b];clear b;go_simp
 have z0:=zaa ag;have z1:w.heap.size<W0.heap.size:=oM
 have z2:w.heap.size+1<W0.heap.size:=oM
 rw[b];clear b
 go_cut [5] (fun _ W=>OzC w q W)
 case first =>
  by_cases bw:nb<0
  ·have bg:s'<0:=by
    have:=aq.out
    rcases zai nb with ⟨e,h⟩|⟨e,h⟩|⟨e,h⟩<;>omega
   go_wp2;refine zae (fun i=>decide (3<i)) (CellL [(⟨w.heap.size,0,Y⟩,Z V s),(⟨w.heap.size,1,Y⟩,O a m c),(⟨w.heap.size+1,0,Y⟩,Z V s'),(⟨w.heap.size+1,1,Y⟩,O a' m' c')]) kM ?_ (fun o=>?_)
   ·exact cA
   refine tu1 (i:=0) ?_;refine tu1 (i:=2) ?_;refine cu1 (i:=1) fun K L=>?_
   go_simp
   (with_reducible refine cM (zcw _ (M #[Z V s,O a m c]) na (ha.ext X0.drew)) ?_)
   rintro e w1 ⟨r1,rfl,D,ad⟩;obtain⟨s1,a1,m1,c1,rfl,-⟩:=D.form2
   go_wp2_with fail
   refine kO L (fun _=>cE o ad) (fun o=>?_);clear L K
   replace o:=o rfl
   refine cu1 (i:=3) fun K L=>?_
   go_simp
   (with_reducible refine cM (zcw _ (M #[Z V s',O a' m' c']) nb (hb.ext (X0.drew.trans ad))) ?_)
   rintro e w2 ⟨r2,rfl,aX,au⟩;obtain⟨s2,a2,m2,c2,rfl,-⟩:=aX.form2
   go_wp2_with fail
   refine kO L (fun _=>cE o au) (fun o=>?_);clear L K
   replace o:=o rfl
   have X2:Ext W0 w2:=(eR W0).drew.trans (ad.trans au);have y1:w.heap.size<w2.heap.size:=X2.lt z1;have y2:w.heap.size+1<w2.heap.size:=X2.lt z2;obtain⟨bp,bs⟩:=X2.cells;refine cu1 (i:=4) fun K L=>?_
   go_simp;refine kO L (fun h=>nomatch h) (fun o=>?_);clear L K;refine cu1 (i:=5) fun K L=>?_
   go_simp;refine kO L (fun h=>nomatch h) (fun o=>?_);clear L K;refine doneHU kM ?_ _;go_wp2;go_meet;have ab:=az.ext X2;have aZ:=aA.ext X2;refine⟨-na,-nb,by omega,by rw[Rat.neg_divInt_neg];exact Hq.out,al.out.neg,am.out.neg,?_,?_,?_,?_⟩
   ·exact zbR (ab.put (D.ext au)) (zbR aZ ab oM _ _) oM _ _
   ·exact(zbR aZ ab oM _ _).put (aX.keep (((KeepT.refl _ w2).setN ab.not _).setN (ab.not.set _ _) _))
   ·exact zde (zde (X0.trans X2) oM _ _) oM _ _
   ·exact zaL (zaL (X2.heapS ag) oM _ _) oM _ _
  ·have bg:¬s'<0:=by
    have:=aq.out
    rcases zai nb with ⟨e,h⟩|⟨e,h⟩|⟨e,h⟩<;>omega
   go_wp2;go_meet;exact⟨na,nb,by omega,Hq.out,al.out,am.out,az,aA,X0,ag⟩
 case rest =>
  clear az aA ag p0 p1 q0 q1 f0 f1 f2 f3 z0 z1 z2 X0 Hq al am aq ha hb hd;obtain⟨n,d,hd,hq,aW,aV,hn,z,hx,f⟩:=hcut;obtain⟨r1,r2,r3,r4,r5⟩:=zhj (n:=n) (d:=d) oM;unfold rg at r1 r2 r3 r4 r5;rw[if_neg oM]at r1 r2 r3 r4 r5;rw[hq]at r4 r5;obtain⟨g,hg⟩:=gX ((Int.gcd n d:Int));rw[hg]at r1 r2 r3 r4 r5;have bv:0<g:=oM
  have ar:Lm limE g:=by
   have:g<=d:=Int.le_of_dvd hd r3;unfold Lm at *;omega
  have Hg:=hd9 hg;have R4:=hd9 r4;have R5:=hd9 r5;have aJ:=hd9 aW;have aG:=hd9 aV;have aH:=hd9 ar;have aI:Hid (Lm limG g):=hd9 (ar.mono dM);have aF:Hid (Lm limG 1):=hd9 (zey dM);have Hn:=hd9 hn;have aK:=hd9 z;have ai:=hd9 f;obtain⟨sx,ax,mx,cx,bh,x0,x1,aB,aC,x2,av⟩:=hn.rd;obtain⟨sy,ay,my,cy,bi,y0,y1,aD,aE,y2,aw⟩:=z.rd;clear hg r1 r2 r3 r4 r5 aW aV ar hn z f bh bi
  go_upto_region 4 with (go_at_call 194;(with_reducible refine(zle _ (M #[Z V sx,O ax mx cx]) (M #[Z V sy,O ay my cy]) n d av aw aJ.out aG.out).mono ?_);rw[Hg.out];rintro e w3 ⟨r3,rfl,t,ae⟩;obtain⟨s3,a3,m3,c3,rfl,-⟩:=t.form2;obtain⟨a7,bc⟩:=ae.cells)
  obtain⟨r,p⟩:=gX (w3.alloc (N #[Z V s3,O a3 m3 c3] 66));have x:Ext wc r:=by rw[<-p];exact ae.alloc _
  have n3:NB r w.heap.size n:=Hn.out.ext x;have d3:NB r (w.heap.size+1) d:=aK.out.ext x;have g3:NB r w3.heap.size g:=by rw[<-p];exact NB.new t rfl
  have e0:=x.cellS x0;have e1:=x.cellS x1;have e2:=x.cellS y0;have e3:=x.cellS y1;have aL:r.frozen? ⟨w.heap.size,0,Y⟩=false:=(x.cells.2 _ _ x2).trans aB;have aM:r.frozen? ⟨w.heap.size,1,Y⟩=false:=(x.cells.2 _ _ x2).trans aC;have aO:r.frozen? ⟨w.heap.size+1,0,Y⟩=false:=(x.cells.2 _ _ y2).trans aD;have aP:r.frozen? ⟨w.heap.size+1,1,Y⟩=false:=(x.cells.2 _ _ y2).trans aE;have e4:r.cell? ⟨w3.heap.size,0,Y⟩=J (Z V s3):=by rw[<-p];clear p;go_simp
  have e5:r.cell? ⟨w3.heap.size,1,Y⟩=J (O a3 m3 c3):=by rw[<-p];clear p;go_simp
  have Q:IsN r (M #[Z V s3,O a3 m3 c3]) g:=by rw[<-p];exact t.ext ((eR _).alloc _)
  have zg:w3.heap.size<r.heap.size:=by rw[<-p];simp
  have zl:wc.heap.size<=w3.heap.size:=ae.size;have zr:=zaa ai.out;have zw:w.heap.size<r.heap.size:=oM
  have ah:w.heap.size+1<r.heap.size:=oM
  obtain⟨gg,aS⟩:=gX w3.heap.size;rw[p];rw[aS]at g3 e4 e5 zg zl ⊢;obtain⟨T,hT⟩:=gX ((g-1).sign)
  have aR:0<T ↔ 1<g:=by
   rw[<-hT]
   rcases zai (g-1)with ⟨e,h⟩|⟨e,h⟩|⟨e,h⟩<;>omega
  have HT:=hd9 hT;clear p aS a7 bc t ae x0 x1 aB aC x2 y0 y1 aD aE y2 hT
  go_cut [19] (fun bj W=>bj=C (decide (1<g))/\Ext r W)
  case first =>
   go_region_held3 (fun W=>W.cell? ⟨gg,0,Y⟩=J (Z V s3)/\W.cell? ⟨gg,1,Y⟩=J (O a3 m3 c3)) ((repeat' (with_reducible refine And.intro ?_ ?_))<;>(first|(go_simp;done)|(refine ad.cellS ?_;go_simp;done))) (first|(go_at_call 96;(with_reducible refine(zbm _ 1 dM dM).mono ?_);rintro e w4 ⟨r4,rfl,R,af⟩;obtain⟨s4,a4,m4,c4,rfl,-⟩:=R.form2;obtain⟨bq,bt⟩:=cK0 af;(have z4:gg<w4.heap.size:=af.lt zg))|(go_at_call 79;(with_reducible refine(zgW _ (M #[Z V s3,O a3 m3 c3]) (M #[Z V s4,O a4 m4 c4]) g 1 ?_ R aI.out aF.out).mono ?_);(refine Q.ext ?_;exact(eR r).drew.trans af);rw[HT.out];rintro e y ⟨rfl,j⟩;obtain⟨ba,be⟩:=cK0 j;(have z5:gg<y.heap.size:=j.lt z4)))
   all_goals go_wp2
   go_meet;exact⟨by simp[aR],(eR r).drew.trans (af.trans j)⟩
  case rest =>
   obtain⟨rfl,l⟩:=hcut;have n4:=n3.ext l;have d4:=d3.ext l;have g4:=g3.ext l;have b0:=l.cellS e0;have b1:=l.cellS e1;have b2:=l.cellS e2;have b3:=l.cellS e3;have b4:=l.cellS e4;have b5:=l.cellS e5;have u0:w.heap.size<wc.heap.size:=l.lt zw;have u1:w.heap.size+1<wc.heap.size:=l.lt ah;have u2:gg<wc.heap.size:=l.lt zg;have aj:=av.ext (x.trans l);have ak:=aw.ext (x.trans l);have P:=Q.ext l;have XW:Ext w wc:=hx.trans (x.trans l);have R:=(x.trans l).heapS ai.out;have ap:=hd9 R
   have a5:Hid (∀(y:X)(k:Ext wc y)(u v:I),IsN ((y.setCell ⟨w.heap.size,0,Y⟩ u).setCell ⟨w.heap.size,1,Y⟩ v) (M #[Z V sy,O ay my cy]) d):=hd9 fun y k u v =>
    (ak.ext k).keep (((KeepT.refl _ y).setN (n4.ext k).not _).setN ((n4.ext k).not.set _ _) _)
   have a0:Hid (∀(y:X)(k:Ext wc y)(u v:I),IsN ((y.setCell ⟨w.heap.size,0,Y⟩ u).setCell ⟨w.heap.size,1,Y⟩ v) (M #[Z V s3,O a3 m3 c3]) g):=hd9 fun y k u v =>
    (P.ext k).keep (((KeepT.refl _ y).setN (n4.ext k).not _).setN ((n4.ext k).not.set _ _) _)
   have ao:=hd9 n4;have an:=hd9 d4;have bk:wc.frozen? ⟨w.heap.size,0,Y⟩=false:=(l.cells.2 _ _ zw).trans aL;have bl:wc.frozen? ⟨w.heap.size,1,Y⟩=false:=(l.cells.2 _ _ zw).trans aM;have bm:wc.frozen? ⟨w.heap.size+1,0,Y⟩=false:=(l.cells.2 _ _ ah).trans aO;have bn:wc.frozen? ⟨w.heap.size+1,1,Y⟩=false:=(l.cells.2 _ _ ah).trans aP;have ug:w.heap.size+1+1<gg:=oM
   have bz:¬gg=w.heap.size:=oM
   have bA:¬w.heap.size=gg:=oM
   clear n3 d3 g3 n4 d4 R e0 e1 e2 e3 e4 e5 aL aM aO aP x l av aw Q Hn aK zw ah zg zl zr g4 aR
   go_upto_if 19 with fail
   go_cut [20] (fun _ W=>OzD w q W)
   case first =>
    by_cases aQ:1<g
    ·have kg:decide (1<g)=true:=by simpa using aQ
     go_wp2_with(first|(go_at_call 142;(with_reducible refine(zdg _ (M #[Z V sx,O ax mx cx]) (M #[Z V s3,O a3 m3 c3]) n g aj P aJ.out aH.out oM).mono ?_);rintro e y ⟨r1,r2,rfl,D,-,j⟩;rw[R4.out]at D;obtain⟨s1,a1,m1,c1,rfl,-⟩:=D.form2;obtain⟨ba,be⟩:=j.cells;(have z5:w.heap.size<y.heap.size:=j.lt u0);(have bF:w.heap.size+1<y.heap.size:=j.lt u1);(have bo:gg<y.heap.size:=j.lt u2))|(go_at_call 142;(with_reducible refine(zdg _ (M #[Z V sy,O ay my cy]) (M #[Z V s3,O a3 m3 c3]) d g (a5.out _ j _ _) (a0.out _ j _ _) aG.out aH.out oM).mono ?_);rintro e w6 ⟨r3,r4,rfl,t,-,aa⟩;rw[R5.out]at t;obtain⟨s6,a6,m6,c6,rfl,-⟩:=t.form2;obtain⟨br,bu⟩:=aa.cells))
     go_meet;have k1:=ao.out.ext j;have k2:=zbR (an.out.ext j) k1 (show w.heap.size+1≠w.heap.size by omega) (Z V s1) (O a1 m1 c1);have k3:=(k1.put D).ext aa;have k4:=k2.ext aa;refine⟨zbR k3 k4 oM _ _,k4.put t,zde ((zde (XW.trans j) oM _ _).trans aa) oM _ _,zaL (aa.heapS (zaL (j.heapS ap.out) oM _ _)) oM _ _⟩
    ·have kg:decide (1<g)=false:=by simpa using aQ
     obtain rfl:g=1:=oM
     go_wp2;go_meet;have e1:=R4.out;have e2:=R5.out;rw[Int.ediv_one]at e1 e2;exact⟨e1▸ao.out,e2▸an.out,XW,ap.out⟩
   case rest =>
    clear u0 u1 u2 bk bl bm bn b0 b1 b2 b3 b4 b5 XW ap ao an aj ak P;obtain⟨hn,z,bx,f⟩:=hcut;obtain⟨s8,a8,m8,c8,-,x0,x1,aB,aC,x2,bf⟩:=hn.rd;obtain⟨s9,a9,m9,c9,-,y0,y1,aD,aE,y2,bb⟩:=z.rd;have r0:=qcB f (i:=0) (u:=Z V 0) rfl;have r1:=qcB f (i:=1) (u:=O Y 0 0) rfl;have r2:=qcB f (i:=2) (u:=Z V 0) rfl;have r3:=qcB f (i:=3) (u:=O Y 0 0) rfl;have bB:=qfB f 0;have bC:=qfB f 1;have bD:=qfB f 2;have bE:=qfB f 3;have rz:=zaa f;have ac:NoT 3 wc (w.heap.size+1+1):=by intro cs fr e;rw[f]at e;cases e
    clear hn z f;go_wp2;refine bR (v:=M #[Z V s8,O a8 m8 c8,Z V s9,O a9 m9 c9]) (by simp[results,Tryz.results146,go_sem,rz,r0,r1,r2,r3]) rfl ⟨_,rfl,IsQ.keep (IsQ.mk bf bb) ?_,eA⟩;exact((((KeepT.refl _ wc).setN ac _).setN (ac.set _ _) _).setN ((ac.set _ _).set _ _) _).setN (((ac.set _ _).set _ _).set _ _) _
end
section
open Go.RowKit Go.Shelf Go.Sort Go.Lib
theorem zby{g:LP}(h:groundB g=true):LnOk g:=by
 unfold groundB at h;rw[Bool.and_eq_true,List.all_eq_true]at h;obtain⟨d,l⟩:=h;unfold wthn at d;simp at d;refine⟨fun e=>by subst e;simp at d,fun p n=>?_,by omega⟩;obtain⟨i,k,rfl⟩:=List.mem_iff_getElem.1 n;have b:=l i (List.mem_range.2 k);unfold grdR at b;rw[gD,gE k,Option.getD_some]at b;simp only[Bool.and_eq_true,Bool.not_eq_true']at b;have f:=b.1;have j:=b.2.1;unfold pfarB at f j;simp at f j
 constructor<;>(unfold Bd;omega)
def holdsB(g:LP)(p:Pl):Bool:=decide (lineL g<=lineL (lowP2 p))&&decide (lineR (lowP2 p)<=lineR g)
def clearB(g:LP)(ps:List Pl)(p:Pl):Bool:=freeB (lowP2 p) g&&!ps.any (clashB p)
theorem form3{T:TypeId}{k:Nat}{α:Type}{P:X->List I->α->Prop}{w:X}{v:I}{xs:List α}(h:Sl T k P w v xs):∃a n c,v=O a n c:=by obtain⟨a,c,h⟩:=h.form;exact⟨a,_,c,h⟩
theorem zbv(w:X)(l i:I)(ps:List Pl)(b:ByteArray)(t:∃a n c,l=O a n c)(h:IsLas w i ps) :
  Calls Tryz.prog 52 #[M #[l,i],.string b] w fun e w'=>e = .returned (C (ps.any (nameB b)))/\Ext w w':=by
 obtain⟨L,Q,P,rfl⟩:=t;have g:=fun W (r:Ext w W) (d:Nat) (z:W.cell? ⟨d,0,Y⟩=J (.string b))=>ziM W i ps d (nameB b) (h.ext' r) (fun W' f K p _ y=>zlr W' K p b d y (f.cellS z))
 obtain⟨a,n,c,rfl⟩:=form3 h;obtain⟨x,k⟩:=gX (ps.any (nameB b));simp only[k]at g ⊢;have o:=hd9 g;clear g k h;have u:∀(j:Fn)(first cap:Array I)(w:X),(Instr.makeFunc j first cap).run Tryz.prog w = .ok (.func j first cap) w:=fun _ _ _ _=>rfl
 go_enter Tryz.func52,Tryz.ntmps52
 go_wp2_with(((go_at_call 129;(with_reducible refine(o.out _ ?_ _ ?_).mono ?_);exact eA;(focus(go_simp;done));rintro e R ⟨rfl,D⟩)))
 go_ret;exact⟨rfl,eA⟩
theorem zdq(w:X)(K L vp:I)(g:LP)(ps:List Pl)(p:Pl)(r:IsPts w K g)(h:IsLas w L ps)(hp:IsLa w vp p)(T:LnOk g)(k1:∀q∈ps,placedOk q=true)(x:placedOk p=true) :
  Calls Tryz.prog 53 #[M #[K,L],vp] w fun e w'=>e = .returned (C (clearB g ps p))/\Ext w w':=by
 obtain⟨s1,y,u1,rfl,z,k,D⟩:=hp;have j:=hd9 (fun W (f:Ext w W) (o:Nat) (hq:W.heap[o]?=J (N (lac p s1 y u1) 128 (0,0)))=>ziK W L ps o (clashB p) (h.ext' f) (fun W' b vq q u t=>zkV W' vq q p o s1 y u1 t ⟨b.heapS hq,z.ext' (f.trans b),k.ext' (f.trans b),D.ext' (f.trans b)⟩ (k1 q u) x));have l:=hd9 (fun W (f:Ext w W)=>zeJ W y K (lowP2 p) g (k.ext' f) (r.ext' f) (zao x).1 T);obtain⟨ga,gn,gc,rfl⟩:=form3 r;obtain⟨a,n,c,rfl⟩:=form3 h;obtain⟨ae,ag,af,rfl⟩:=form3 z;obtain⟨a1,n1,c1,rfl⟩:=form3 k;obtain⟨ah,aj,ai,rfl⟩:=form3 D;obtain⟨fr,P⟩:=gX (freeB (lowP2 p) g);obtain⟨cl,Q⟩:=gX (ps.any (clashB p));unfold clearB;rw[P]at l ⊢;rw[Q]at j ⊢;obtain⟨nm,sh,d,de,gx,gz,wy,ax,az,sk⟩:=p;clear P Q r h z k D T k1 x;unfold lac at j ⊢;dsimp only at j ⊢;have ac:∀(R:Fn)(first cap:Array I)(w:X),(Instr.makeFunc R first cap).run Tryz.prog w = .ok (.func R first cap) w:=fun _ _ _ _=>rfl
 cases fr with
 | false =>
  go_enter Tryz.func53,Tryz.ntmps53
  go_wp2_with(go_at_call 131;(with_reducible refine(l.out _ ?_).mono ?_);exact eA;rintro e w1 ⟨rfl,i⟩)
  go_ret;exact⟨rfl,eA⟩
 | true =>
  go_enter Tryz.func53,Tryz.ntmps53
  go_wp2_with(first|(go_at_call 131;(with_reducible refine(l.out _ ?_).mono ?_);exact eA;rintro e w1 ⟨rfl,i⟩;obtain⟨aa,ab⟩:=i.cells)|(go_at_call 129;(with_reducible refine(j.out _ ?_ _ ?_).mono ?_);exact eA;(exact i.heapS (qhA _ _ _ sM));rintro e w2 ⟨rfl,ad⟩))
  go_ret;exact⟨rfl,eA⟩
theorem zdE(w:X)(x vs vp:I)(g:LP)(p:Pl)(t:IsPts w x g)(h:∃a n c,vs=O a n c)(hp:IsLa w vp p)(L:LnOk g)(k2:placedOk p=true) :
  Calls Tryz.prog 51 #[M #[x,vs],vp] w fun e w'=>e = .returned (C (holdsB g p))/\Ext w w':=by
 obtain⟨s1,l1,u1,rfl,p1,u,p3⟩:=hp;have P:=(zao k2).1;have R:=hd9 (fun(W:X)(j:Ext w W)=>zbo W x g (t.ext' j) (List.length_pos_iff.2 L.1));have T:=hd9 (fun(W:X)(j:Ext w W)=>zbo W l1 (lowP2 p) (u.ext' j) (List.length_pos_iff.2 P.1));have HC:=hd9 (fun(W:X)(j:Ext w W)=>zbi W l1 (lowP2 p) (u.ext' j) (List.length_pos_iff.2 P.1));have HD:=hd9 (fun(W:X)(j:Ext w W)=>zbi W x g (t.ext' j) (List.length_pos_iff.2 L.1));obtain⟨ga,gn,gc,rfl⟩:=form3 t;obtain⟨a,n,c,rfl⟩:=h;obtain⟨aa,ac,ab,rfl⟩:=form3 p1;obtain⟨a1,n1,c1,rfl⟩:=form3 u;obtain⟨ad,af,ae,rfl⟩:=form3 p3;unfold holdsB;obtain⟨z,f1⟩:=gX (lineL g);obtain⟨gr,f2⟩:=gX (lineR g);obtain⟨Q,f3⟩:=gX (lineL (lowP2 p));obtain⟨pr,f4⟩:=gX (lineR (lowP2 p));simp only[f1,f2,f3,f4]at R T HC HD ⊢;obtain⟨nm,sh,d,de,gx,gz,wy,ax,az,sk⟩:=p;clear f1 f2 f3 f4 t p1 u p3 L k2 P;unfold lac;dsimp only;go_enter Tryz.func51,Tryz.ntmps51;go_wp2;refine wp_region_held_drew (S:=CellL [(⟨w.heap.size,0,Y⟩,O ga gn gc),(⟨w.heap.size+1,10,Y⟩,O a1 n1 c1)]) kM cA (fun b=>?_);refine sN 0 ?_
 iterate 2
  refine tkn ?_
 refine oN ?_;refine sN 3 ?_
 iterate 2
  refine tkn ?_
 refine oN ?_;refine cl1 (i:=2) fun K f=>?_
 go_simp
 (with_reducible refine cM (R.out _ eA) ?_)
 rintro e w3 ⟨rfl,D⟩
 skip
 go_wp2_with fail
 refine kO f (cE b D) (fun b=>?_);clear f K;have X3:Ext w w3:=eA;refine cl1 (i:=5) fun K f=>?_
 go_simp
 (with_reducible refine cM (T.out _ X3) ?_)
 rintro e w4 ⟨rfl,k⟩
 skip
 go_wp2_with fail
 refine kO f (cE b k) (fun b=>?_);clear f K;have y:=X3.trans k;refine sN 6 ?_
 iterate 2
  refine tkn ?_
 refine oN ?_
 by_cases g1:z<=Q
 ·have r:decide (z<=Q)=true:=by simpa using g1
  rw[r];refine sN 8 ?_
  iterate 2
   refine tkn ?_
  refine oN ?_;refine sN 11 ?_
  iterate 2
   refine tkn ?_
  refine oN ?_;refine cl1 (i:=10) fun K f=>?_
  go_simp
  (with_reducible refine cM (HC.out _ y) ?_)
  rintro e w5 ⟨rfl,l⟩
  skip
  go_wp2_with fail
  refine kO f (cE b l) (fun b=>?_);clear f K;have X5:=y.trans l;refine cl1 (i:=13) fun K f=>?_
  go_simp
  (with_reducible refine cM (HD.out _ X5) ?_)
  rintro e w6 ⟨rfl,o⟩
  skip
  go_wp2_with fail
  refine kO f (cE b o) (fun b=>?_);clear f K;have X6:=X5.trans o;refine sN 14 ?_
  iterate 3
   refine tkn ?_
  refine oN ?_;refine wpAnyH_done kM ?_ _;go_wp2;go_ret;exact⟨by rw[r];rfl,X6⟩
 ·have r:decide (z<=Q)=false:=by simpa using g1
  rw[r];refine sN 8 ?_
  iterate 2
   refine tkgn ?_
  refine oN ?_;refine sN 11 ?_
  iterate 2
   refine tkgn ?_
  refine oN ?_;refine tkg1 (i:=10) ?_;refine sN 13 ?_
  iterate 2
   refine tkgn ?_
  iterate 2
   refine tkn ?_
  refine oN ?_;refine wpAnyH_done kM ?_ _;go_wp2;go_ret;exact⟨by simp,y⟩
def addE(g:LP)(done:List Pl)(p:Pl):Int:=if placedOk p then (if holdsB g p then (if done.any (nameB p.name)then 7 else 0)else 2)else 2
def laid1(g:LP):List Pl->List Pl->Int
 | _,[]=>0
 | done,p::r=>if addE g done p=0 then laid1 g (done++[p]) r else addE g done p
def laid2(g:LP):List Pl->List Pl->Int
 | _,[]=>0
 | done,p::r=>if clearB g done p then laid2 g (done++[p]) r else 12
def laidP(g:LP)(ps:List Pl):Int:=if groundB g then (if 120<ps.length then 5 else if laid1 g [] ps=0 then laid2 g [] ps else laid1 g [] ps)else 2
theorem zcv{α:Type}{ps:List α}{i:Nat}{p:α}(h:ps[i]?=J p):ps.drop i=p::ps.drop (i+1):=by
 obtain⟨b,rfl⟩:=lS.1 h;exact List.drop_eq_getElem_cons b
theorem zh1{g:LP}{ps:List Pl}{i:Nat}{p:Pl}(h:ps[i]?=J p)(b:addE g (ps.take i) p=0):laid1 g (ps.take i) (ps.drop i)=laid1 g (ps.take (i+1)) (ps.drop (i+1)):=by
 rw[zcv h,zab _ _ _ h,laid1,if_pos b]
theorem zcN{g:LP}{ps:List Pl}{i:Nat}{p:Pl}(h:ps[i]?=J p)(b:addE g (ps.take i) p≠0):laid1 g (ps.take i) (ps.drop i)=addE g (ps.take i) p:=by
 rw[zcv h,laid1,if_neg b]
theorem zh2{g:LP}{ps:List Pl}{i:Nat}{p:Pl}(h:ps[i]?=J p)(b:clearB g (ps.take i) p=true):laid2 g (ps.take i) (ps.drop i)=laid2 g (ps.take (i+1)) (ps.drop (i+1)):=by
 rw[zcv h,zab _ _ _ h,laid2,if_pos b]
theorem zh3{g:LP}{ps:List Pl}{i:Nat}{p:Pl}(h:ps[i]?=J p)(b:clearB g (ps.take i) p=false):laid2 g (ps.take i) (ps.drop i)=12:=by
 rw[zcv h,laid2,b];rfl
def OwnLa(w:X)(base:Nat)(v:I)(ps:List Pl):Prop:=∃cs,OwnC 128 12 w base v cs/\cs.length=ps.length/\∀(i:Nat) c p,cs[i]?=J c->ps[i]?=J p->PLa w c p
theorem OwnLa.las{w:X}{base:Nat}{v:I}{ps:List Pl}(h:OwnLa w base v ps):IsLas w v ps:=by
 obtain⟨f,b,d,e⟩:=h;exact b.sl d e
theorem OwnLa.ext{w w':X}{base:Nat}{v:I}{ps:List Pl}(h:OwnLa w base v ps)(k:Ext w w'):OwnLa w' base v ps:=by
 obtain⟨b,d,e,f⟩:=h;exact⟨b,d.ext k,e,fun i c p g j=>(f i c p g j).ext k⟩
theorem OwnLa.nil(w:X)(base:Nat):OwnLa w base (O Y 0 0) []:=⟨[],OwnC.nil _ _ _ _,rfl,fun i c p b=>by simp at b⟩
theorem OwnLa.form3{w:X}{base:Nat}{v:I}{ps:List Pl}(h:OwnLa w base v ps):∃a n c,v=O a n c:=by obtain⟨d,b,_⟩:=h;exact b.form3
theorem OwnLa.setOther{w:X}{base:Nat}{v:I}{ps:List Pl}{q:Addr}(h:OwnLa w base v ps)(k:v.ownBlock≠J q.block)(j:NoT 43 w q.block)(u:I):OwnLa (w.setCell q u) base v ps:=by
 obtain⟨b,d,e,f⟩:=h;exact⟨b,d.setOther k u,e,fun i c p g l=>(f i c p g l).keep ((KeepT.refl _ w).setN j u)⟩
theorem OwnLa.lt{w:X}{base:Nat}{v:I}{ps:List Pl}(h:OwnLa w base v ps):∀j,v.ownBlock=J j->base<=j/\j<w.heap.size:=by obtain⟨d,b,_⟩:=h;exact b.lt
theorem OwnLa.app{wr f:X}{base:Nat}{k:I}{ps:List Pl}{cs:List (List I)}{d:List I}{p:Pl}(h:OwnC 128 12 f base k (cs++[d]))(g:cs.length=ps.length)
  (j:∀(i:Nat) c p,cs[i]?=J c->ps[i]?=J p->PLa wr c p)(o:KeepT 43 wr f)(l:PLa f d p):OwnLa f base k (ps++[p]):=by
 refine⟨cs++[d],h,by simp[g],fun i c x b e=>?_⟩
 by_cases n:i<cs.length
 ·rw[List.getElem?_append_left n]at b
  rw[List.getElem?_append_left oM]at e;exact(j i c x b e).keep o
 ·rw[List.getElem?_append_right oM]at b e
  have r:=(lS.1 b).1;simp at r;have:i-cs.length=0:=oM
  rw[this]at b;rw[show i-ps.length=0 by omega]at e;simp at b e;subst b e;exact l
theorem zm9:(Tryz.prog.info? 128).map (fun i=>(i.zero,i.size,i.bytes))=J (J (M la0),12,152):=kM
theorem zeW(W:X)(cs:Array I)(T:TypeId):∀(j:Nat) u,[cs.toList].flatten[j]?=J u->(W.alloc (N cs T)).cell? ((⟨W.heap.size,0,Y⟩:Addr).add j)=J u:=by
 intro j u b;rw[List.flatten_cons,List.flatten_nil,List.append_nil,Array.getElem?_toList]at b;have e:=qcB (aN W (N cs T)) b;unfold Addr.add
 split
 ·subst j;exact e
 ·rw[show (⟨W.heap.size,0,Y⟩:Addr).off+j=j by simp];exact e
def PPl(w:X)(c:List I)(p:Pl):Prop:=∃v,c=(plc p v).toList/\IsPts w v p.shape/\0<=p.skin
theorem PPl.ext{w w':X}{c:List I}{p:Pl}(h:PPl w c p)(k:Ext w w'):PPl w' c p:=by
 obtain⟨v,b,d,e⟩:=h;exact⟨v,b,d.ext' k,e⟩
abbrev IsPls(w:X)(v:I)(ps:List Pl):Prop:=Sl 47 10 PPl w v ps
theorem IsPls.ext'{w w':X}{v:I}{ps:List Pl}(h:IsPls w v ps)(k:Ext w w'):IsPls w' v ps:=Sl.ext h (fun _ _ h=>PPl.ext h k) k
theorem IsPls.at'{w:X}{a:Option Addr}{n c:Nat}{ps:List Pl}(h:IsPls w (O a n c) ps){i:Nat}{p:Pl}(r:ps[i]?=J p) :
  ∃b o v,a=J ⟨b,o,Y⟩/\b<w.heap.size/\IsPts w v p.shape/\0<=p.skin/\∀(j:Nat) u,(plc p v)[j]?=J u->w.cell? ⟨b,o+i*10+j,Y⟩=J u:=by
 obtain⟨b,o,d,rfl,g,t,⟨v,rfl,e,f⟩,k⟩:=Sl.at h r;exact⟨b,o,v,rfl,g,e,f,fun j u l=>k j u (by rw[Array.getElem?_toList];exact l)⟩
end
end Go.Proofs.YtjnjpagegkcgfaaGreatDoor.Cop
