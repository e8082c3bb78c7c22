import Derived.Test.YtjnjpagegkcgfaaGreatDoorCobA18
import Derived.Test.YtjnjpagegkcgfaaGreatDoorCobA19
set_option maxRecDepth 1000000
set_option maxHeartbeats 16000000
set_option linter.all false
open Go.IntKind renaming i64->O
open Go.Value renaming int->Y,agg->I,slice->J
open Option renaming none->Z,some->M
open Go renaming World->X,Value->V
namespace Go.Proofs.YtjnjpagegkcgfaaGreatDoor.Cop
section
open Go.RowKit Go.Shelf
def Me(cs:List Int)(x n0:Int):Int:=cs.foldl (fun n c=>if x<c/\c<n then c else n) n0
def Vi(cs:List Int)(x hi:Int):Int:=if x<hi/\hi<Me cs x (hi+1)then hi else Me cs x (hi+1)
def AK(cs ds:List Int)(x n0:Int):Me (cs++ds) x n0=Me ds x (Me cs x n0):=by unfold Me;rw[List.foldl_append]
def nr(cs:List Int)(x:Int):∀n0,Me cs x n0<=n0/\(∀c∈cs,x<c->Me cs x n0<=c)/\(Me cs x n0=n0\/(Me cs x n0∈cs/\x<Me cs x n0)):=by
 induction cs with
 | nil=>intro n0;exact⟨Int.le_refl _,fun c h=>(nomatch h),.inl rfl⟩
 | cons d cs k =>
  intro n0;have e:Me (d::cs) x n0=Me cs x (if x<d/\d<n0 then d else n0):=rfl;obtain⟨f,g,a⟩:=k (if x<d/\d<n0 then d else n0);rw[e];by_cases j:x<d/\d<n0
  ·rw[if_pos j]at f g a ⊢;refine⟨by omega,fun c b i=>?_,?_⟩
   ·rcases List.mem_cons.1 b with rfl|b
    ·exact f
    ·exact g c b i
   ·rcases a with a|a
    ·exact .inr ⟨by rw[a];exact List.mem_cons_self,by omega⟩
    ·exact .inr ⟨mC _ a.1,a.2⟩
  ·rw[if_neg j]at f g a ⊢;refine⟨f,fun c b i=>?_,?_⟩
   ·rcases List.mem_cons.1 b with rfl|b
    ·omega
    ·exact g c b i
   ·rcases a with a|a
    ·exact .inl a
    ·exact .inr ⟨mC _ a.1,a.2⟩
def zN(l:List Int)(i:Nat):Int:=l.getD i 0
def Eq{l:List Int}{i:Nat}(h:i<l.length):zN l i=l[i]:=by unfold zN;rw[gD,gE h];rfl
def Gp{l:List Int}{i:Nat}(h:i<l.length):zN l i∈l:=by rw[Eq h];exact List.getElem_mem h
structure Ks (cs:List Int) (lo hi:Int) (L:List Int):Prop where
 pos:0<L.length
 h0:zN L 0=lo
 st:∀k,k+1<L.length->zN L (k+1)=Vi cs (zN L k) hi
 le:∀k,k<L.length->zN L k<=hi
 stop:hi<Vi cs (zN L (L.length-1)) hi
def CF{cs L:List Int}{lo hi:Int}(K:lo<hi)(R:L.Pairwise (·<·))(n:∀z,z∈L ↔ (z=lo\/z=hi\/(lo<z/\z<hi/\z∈cs))):Ks cs lo hi L:=by
 have a:∀z∈L,lo<=z/\z<=hi:=fun z b=>by
  rcases(n z).1 b with h|h|h<;>omega
 have Q:=List.pairwise_iff_getElem.1 R;have up:∀{i j:Nat},i<j->j<L.length->zN L i<zN L j:=fun {i j} p u=>by
  rw[Eq oM,Eq u];exact Q i j oM u p
 have c:∀{z},z∈L->∃i,i<L.length/\zN L i=z:=fun {z} b=>by
  obtain⟨i,hi,e⟩:=List.getElem_of_mem b;exact⟨i,hi,by rw[Eq hi];exact e⟩
 have m:lo∈L:=(n lo).2 (.inl rfl);have r:hi∈L:=(n hi).2 (.inr (.inl rfl));have v:0<L.length:=List.length_pos_iff.2 (List.ne_nil_of_mem m);refine⟨v,?_,fun k l=>?_,fun k l=>(a _ (Gp l)).2,?_⟩
 ·obtain⟨i,hi,e⟩:=c m;have p:=(a _ (Gp v)).1;rcases Nat.eq_zero_or_pos i with rfl|q
  ·exact e
  ·have:=up q hi;omega
 ·have f:=up (show k<k+1 by omega) l;have W:=a _ (Gp (show k<L.length by omega));have hb:=a _ (Gp l);have g:=(n _).1 (Gp l);obtain⟨S,s,d⟩:=nr cs (zN L k) (hi+1);have t:∀{z},z∈L->zN L k<z->zN L (k+1)<=z:=fun {z} b P=>by
   obtain⟨j,y,e⟩:=c b;rcases Nat.lt_trichotomy j (k+1)with h|h|h
   ·rcases Nat.lt_trichotomy j k with o | o | o
    ·have:=up o oM;omega
    ·subst o;omega
    ·omega
   ·subst h;omega
   ·have:=up h y;omega
  unfold Vi;by_cases hc:Me cs (zN L k) (hi+1)<=hi
  ·rw[if_neg oM];rcases d with d|⟨d,w⟩
   ·omega
   ·have b:Me cs (zN L k) (hi+1)∈L:=(n _).2 (by
     by_cases q:Me cs (zN L k) (hi+1)=hi
     ·exact .inr (.inl q)
     ·exact .inr (.inr ⟨by omega,by omega,d⟩))
    have T:=t b w;rcases g with h|h|h
    ·omega
    ·omega
    ·have:=s _ h.2.2 f;omega
  ·rw[if_pos oM];rcases g with h|h|h
   ·omega
   ·exact h
   ·have:=s _ h.2.2 f;omega
 ·have e:zN L (L.length-1)=hi:=by
   obtain⟨i,x,e⟩:=c r;have p:=(a _ (Gp (show L.length-1<L.length by omega))).2;rcases Nat.lt_or_ge i (L.length-1)with h|h
   ·have:=up h oM;omega
   ·have:i=L.length-1:=oM;subst this;exact e
  rw[e];obtain⟨S,s,d⟩:=nr cs hi (hi+1);unfold Vi;rw[if_neg oM];rcases d with d|⟨_,w⟩<;>omega
def YA{s:Sp}(h:s.lo<s.hi):Ks ((s.over++s.under).map (·.1)) s.lo s.hi (Mc s):=
 CF h (AN s) (fun z=>by
  rw[lh];constructor
  ·rintro (h|h|⟨a,b,q,c,rfl⟩)
   ·exact .inl h
   ·exact .inr (.inl h)
   ·exact .inr (.inr ⟨a,b,List.mem_map_of_mem c⟩)
  ·rintro (h|h|⟨a,b,d⟩)
   ·exact .inl h
   ·exact .inr (.inl h)
   ·obtain⟨q,c,e⟩:=List.mem_map.1 d;exact .inr (.inr ⟨a,b,q,c,e⟩))
end
section
open Go.RowKit Go.Shelf Go.Sort Go.Lib
def Uz(x y:Rat):Eb x y = -1 ↔ x<y:=by
 rw[<-Kn];unfold Eb;rcases Int.lt_trichotomy (x.num*y.den-y.num*x.den) 0 with h|h|h
 ·rw[Int.sign_eq_neg_one_of_neg h];decide
 ·rw[h];decide
 ·rw[Int.sign_eq_one_of_pos h];decide
def Tz(x y:Rat):Eb x y=1 ↔ y<x:=by
 rw[<-Kq];unfold Eb;rcases Int.lt_trichotomy (x.num*y.den-y.num*x.den) 0 with h|h|h
 ·rw[Int.sign_eq_neg_one_of_neg h];decide
 ·rw[h];decide
 ·rw[Int.sign_eq_one_of_pos h];decide
def xk{q:Rat}:q.num<0 ↔ q<0:=by rw[Rat.lt_iff];simp
def Wi{q:Rat}:0<q.num ↔ 0<q:=by rw[Rat.lt_iff];simp
def uh{q:Rat}:q.num.sign<=0 ↔ q<=0:=by rw[<-Rat.not_lt,<-Wi,<-Int.sign_pos_iff];omega
def ig(o:Rat×Rat)(S:Rat->Prop):Prop:=S o.1/\S o.2/\∀x,S x->o.1<=x/\x<=o.2
def ig.wid{o:Rat×Rat}{S:Rat->Prop}(h:ig o S)(y:Rat):ig (ue o y) fun x=>S x\/x=y:=by
 obtain⟨d,f,e⟩:=h;have b:(ue o y).1=if y<o.1 then y else o.1:=by
  show Vd (-1) o.1 y=_;unfold Vd;simp only[Uz]
 have c:(ue o y).2=if o.2<y then y else o.2:=by
  show Vd 1 o.2 y=_;unfold Vd;simp only[Tz]
 refine⟨?_,?_,fun x a=>?_⟩
 ·rw[b];split
  ·exact .inr rfl
  ·exact .inl d
 ·rw[c];split
  ·exact .inr rfl
  ·exact .inl f
 ·rw[b,c];rcases a with a|rfl
  ·have:=e x a;constructor<;>split<;>grind
  ·have:=e _ d;constructor<;>split<;>grind
def ig.of{o:Rat×Rat}{S a:Rat->Prop}(h:ig o S)(e:∀x,a x ↔ S x):ig o a:=by obtain⟨b,c,d⟩:=h;exact⟨(e _).2 b,(e _).2 c,fun x f=>d x ((e x).1 f)⟩
def Eo(f:Rat->Rat)(qs:List Rat)(m:Rat):Nat->Rat->Prop
 | 0,x=>x=m
 | i+1,x=>Eo f qs m i x\/(f (qs.getD i 0)<=0/\x=qs.getD i 0)\/(i≠0/\f (qs.getD i 0)*f (qs.getD (i-1) 0)<0/\x=Td f (qs.getD (i-1) 0) (qs.getD i 0))
def Tf(x y:Rat):x.num.sign*y.num.sign<0 ↔ x*y<0:=by
 have e:x.num.sign = -1/\x<0\/x.num.sign=0/\x=0\/x.num.sign=1/\0<x:=by
  rcases Int.lt_trichotomy x.num 0 with h|h|h
  ·exact .inl ⟨Int.sign_eq_neg_one_of_neg h,xk.1 h⟩
  ·exact .inr (.inl ⟨by rw[h];rfl,Rat.num_eq_zero.1 h⟩)
  ·exact .inr (.inr ⟨Int.sign_eq_one_of_pos h,Wi.1 h⟩)
 have f:y.num.sign = -1/\y<0\/y.num.sign=0/\y=0\/y.num.sign=1/\0<y:=by
  rcases Int.lt_trichotomy y.num 0 with h|h|h
  ·exact .inl ⟨Int.sign_eq_neg_one_of_neg h,xk.1 h⟩
  ·exact .inr (.inl ⟨by rw[h];rfl,Rat.num_eq_zero.1 h⟩)
  ·exact .inr (.inr ⟨Int.sign_eq_one_of_pos h,Wi.1 h⟩)
 rcases e with ⟨a,b⟩|⟨a,b⟩|⟨a,b⟩<;>rcases f with ⟨c,d⟩|⟨c,d⟩|⟨c,d⟩<;>rw[a,c]
 ·have:=Rat.mul_pos (show 0 < -x by grind) (show 0 < -y by grind);exact⟨fun h=>absurd h dM,fun h=>by grind⟩
 ·rw[d,Rat.mul_zero];decide
 ·have:=Rat.mul_pos (show 0 < -x by grind) d;exact⟨fun _=>by grind,fun _=>by decide⟩
 ·rw[b,Rat.zero_mul];decide
 ·rw[b,Rat.zero_mul];decide
 ·rw[b,Rat.zero_mul];decide
 ·have:=Rat.mul_pos b (show 0 < -y by grind);exact⟨fun _=>by grind,fun _=>by decide⟩
 ·rw[d,Rat.mul_zero];decide
 ·have:=Rat.mul_pos b d;exact⟨fun h=>absurd h dM,fun h=>by grind⟩
def EC(f:Rat->Rat)(qs:List Rat)(m:Rat):∀n,ig (Cb f qs (m,m) n) (Eo f qs m n)
 | 0=>⟨rfl,rfl,fun x g=>by cases g;exact⟨Rat.le_refl,Rat.le_refl⟩⟩
 | i+1=>by
  have e:=EC f qs m i;have d:ig (Qb f (Cb f qs (m,m) i) (qs.getD i 0)) fun x=>Eo f qs m i x\/(f (qs.getD i 0)<=0/\x=qs.getD i 0):=by
   unfold Qb;by_cases c:f (qs.getD i 0)<=0
   ·rw[if_pos (uh.2 c)];exact(e.wid _).of fun x=>⟨fun h=>h.imp id fun h=>h.2,fun h=>h.imp id fun h=>⟨c,h⟩⟩
   ·rw[if_neg (fun h=>c (uh.1 h))];exact e.of fun x=>⟨fun h=>h.elim id fun h=>absurd h.1 c,fun h=>.inl h⟩
  unfold Cb;by_cases a:i=0
  ·rw[if_pos a];exact d.of fun x=>⟨fun h=>h.elim .inl fun h=>h.elim .inr fun h=>absurd a h.1,fun h=>h.elim .inl fun h=>.inr (.inl h)⟩
  ·rw[if_neg a];unfold je;by_cases b:f (qs.getD i 0)*f (qs.getD (i-1) 0)<0
   ·rw[if_pos ((Tf _ _).2 b)];exact(d.wid _).of fun x=>⟨fun h=>h.elim (fun h=>.inl (.inl h)) fun h=>h.elim (fun h=>.inl (.inr h)) fun h=>.inr h.2.2,fun h=>h.elim (fun h=>h.elim .inl fun h=>.inr (.inl h)) fun h=>.inr (.inr ⟨a,b,h⟩)⟩
   ·rw[if_neg (fun h=>b ((Tf _ _).1 h))];exact d.of fun x=>⟨fun h=>h.elim .inl fun h=>h.elim .inr fun h=>absurd h.2.1 b,fun h=>h.elim .inl fun h=>.inr (.inl h)⟩
end
section
open Go.RowKit Go.Shelf Go.Sort
attribute [local go_sem] Oper.semAt_some
def Kp(w:X)(n a b:Int):Calls Tryz.prog 159 #[Y O n,Y O a,Y O b] w fun e d=>e=.returned (.bool (Ta n a b))/\Ba w d:=by
 unfold Ta;by_cases h:a<=n
 ·have c:decide (a<=n)=true:=by simpa using h
  go_in;go_wp2;go_ret;exact⟨by simp[c],eA⟩
 ·have c:decide (a<=n)=false:=by simpa using h
  go_in;go_wp2;go_ret;exact⟨by simp[c],eA⟩
def yb.pt{w:X}{a:Option Addr}{n c:Nat}{l:LP}(h:yb w (J a n c) l){i:Nat}(hi:i<l.length):∃b o,a=M ⟨b,o,Z⟩/\b<w.heap.size/\w.cell? ⟨b,o+i*2,Z⟩=M (Y O (Pa l i).1)/\w.cell? ⟨b,o+i*2+1,Z⟩=M (Y O (Pa l i).2):=by rw[Ah hi];exact h.at' (gE hi)
def iO(w:X)(v:V)(l:LP)(i:Nat)(h:yb w v l)(hi:i<l.length)(s:l.length<=1000000):Calls Tryz.prog 242 #[v,Y O i] w fun e u=>e=.returned (I #[Y O (Pa l ((i+1)%l.length)).1,Y O (Pa l ((i+1)%l.length)).2])/\Ba w u:=by
 obtain⟨a,c,rfl⟩:=h.form;obtain⟨n,f⟩:=gX l.length;have t:(i+1)%n<n:=Nat.mod_lt _ oM;obtain⟨k,d⟩:=gX ((i+1)%n);rw[d]at t;obtain⟨b,o,rfl,x,q,r⟩:=h.pt (i:=k) oM;rw[f,d];rw[f]at hi s;obtain⟨p,m⟩:=gX (Pa l k);rw[m]at q r ⊢;have y:Int.tmod ((i:Int)+1) (n:Int)=(k:Int):=by
  rw[Int.tmod_eq_emod_of_nonneg oM,<-d,Int.natCast_emod];rfl
 have g:¬(n:Int)=0:=oM;have j:((n:Int)==0)=false:=by simpa using g
 have z:(0:Int)<=(k:Int):=oM;have K:(k:Int)<(n:Int):=oM;clear m d h f;go_in;go_wp2;exact bR (v:=I #[Y O p.1,Y O p.2]) (by simp[results,Tryz.results242,go_sem]) rfl ⟨rfl,eA⟩
def Vy{j k x y:Int}(e:Bd j x)(hy:Bd k y)(a:0<=j):Bd (j*k) (x*y):=by
 unfold Bd at *;have b:0<=k:=oM;have c:(x*y).natAbs<=(j*k).natAbs:=by
  rw[Int.natAbs_mul,Int.natAbs_mul];exact Nat.mul_le_mul oM oM
 have d:0<=j*k:=Int.mul_nonneg a b;omega
def EM(w:X)(p q r:Int×Int)(m:Bd 1000000 p.1)(n:Bd 1000000 p.2)(o:Bd 1000000 q.1)(s:Bd 1000000 q.2)(t:Bd 1000000 r.1)(u:Bd 1000000 r.2):Calls Tryz.prog 241 #[I #[Y O p.1,Y O p.2],I #[Y O q.1,Y O q.2],I #[Y O r.1,Y O r.2]] w fun e K=>e=.returned (Y O (qi p q r))/\Ba w K:=by obtain⟨a,b⟩:=p;obtain⟨c,d⟩:=q;obtain⟨f,g⟩:=r;unfold qi;dsimp only at *;have v:=Vy (j:=2000000) (k:=2000000) (x:=c-a) (y:=g-b) (by unfold Bd at *;omega) (by unfold Bd at *;omega) dM;have z:=Vy (j:=2000000) (k:=2000000) (x:=d-b) (y:=f-a) (by unfold Bd at *;omega) (by unfold Bd at *;omega) dM;obtain⟨A,i⟩:=gX ((c-a)*(g-b));obtain⟨P,l⟩:=gX ((d-b)*(f-a));rw[i]at v ⊢;rw[l]at z ⊢;unfold Bd at *;go_in;go_wp2;go_ret;exact⟨rfl,eA⟩
def Ei(l:LP):Nat->Int×Int
 | 0=>Pa l 0
 | i+1=>(min (Ei l i).1 (Pa l i).1,min (Ei l i).2 (Pa l i).2)
def yC(l:LP):∀i,i<=l.length->Ei l i=(l.take i).foldl (fun o q=>(min o.1 q.1,min o.2 q.2)) (Pa l 0)
 | 0,_=>by simp[Ei]
 | i+1,h=>by
  rw[Ei,yC l i (by omega),Rf l i (Pa l i) (by rw[Ah (by omega)];exact gE _),List.foldl_append];rfl
def uv{l:LP}(h:l≠[]):Ei l l.length=Va l:=by rw[yC l l.length (nE _),List.take_length];exact QG h
def sR(w:X)(l:LP)(t4:V)(W:X):Prop:=
 ∃i:Nat,t4=Y O i/\i<=l.length/\Ba w W/\W.heap[w.heap.size]?=M (.cells #[Y O 0,Y O 0] 27 (0,0))/\W.heap[w.heap.size+1]?=M (.cells #[Y O (Ei l i).1,Y O (Ei l i).2] 27 (0,0))
def IB(w:X)(v:V)(l:LP)(h:yb w v l)(k:l≠[]):Calls Tryz.prog 164 #[v] w fun e w'=>e=.returned (I #[Y O (Va l).1,Y O (Va l).2])/\Ba w w':=by
 obtain⟨a,c,rfl⟩:=h.form;rw[<-uv k];obtain⟨n,Q⟩:=gX l.length;have af:0<n:=by rw[<-Q];exact List.length_pos_iff.2 k
 have P:=h.le;unfold maxLen at P;rw[Q]at P ⊢;obtain⟨b,o,rfl,hb,s,t⟩:=h.pt (i:=0) oM;obtain⟨p,hp⟩:=gX (Pa l 0);rw[hp]at s t;simp only[Nat.zero_mul,Nat.add_zero,Nat.zero_add]at s t;have Hp:=Aa hp;have S:=Aa Q;have H:=Aa h;clear hp Q h k;go_in;go_wp2;go_loopw [4] (sR w l) (fun t4 _=>n-(intOf t4).toNat)
 case atStart =>
  refine⟨0,rfl,by omega,eA,?_,?_⟩
  ·rw[Below.heap_alloc _ _ _ sM];exact aN _ _
  ·rw[show Ei l 0=p from Hp.o];exact Ec _ _ _ sM
 case round =>
  clear s t;obtain⟨i,rfl,hi,hx,z,d⟩:=hrel;rw[S.o]at hi;obtain⟨m,hm⟩:=gX (Ei l i);rw[hm]at d;have Hm:=Aa hm;have m0:=Ca d (i:=0) (u:=Y O m.1) rfl;have m1:=Ca d (i:=1) (u:=Y O m.2) rfl;have ag:=Ua d 0;have ah:=Ua d 1;have mz:=Gb d;have f:=Aa z;have R:=Aa d;clear hm z d;by_cases ab:i<n
  ·obtain⟨b2,o2,e2,ad,s,t⟩:=(H.o.f hx).pt (i:=i) (by rw[S.o];exact ab);cases e2;have ae:b<w.heap.size:=hb;obtain⟨q,x⟩:=gX (Pa l i);rw[x]at s t;have Hq:=Aa x;have g0:(0:Int)<=(i:Int):=oM;have g1:(i:Int)<(n:Int):=oM;have g:Ei l (i+1)=(min m.1 q.1,min m.2 q.2):=by rw[Ei,Hm.o,Hq.o]
   have T:=Aa g;obtain⟨mx,r⟩:=m;obtain⟨qx,qz⟩:=q;dsimp only at m0 m1 s t;have ai:¬b=w.heap.size+1:=oM;clear x g;go_wp2;refine CP (Da [(⟨b,o+i*2,Z⟩,Y O qx),(⟨b,o+i*2+1,Z⟩,Y O qz)]) (Da [(⟨w.heap.size+1,0,Z⟩,Y O mx),(⟨w.heap.size+1,1,Z⟩,Y O r)]) 17 kM cA cA (fun hA hB=>?_);refine vj (i:=0) false ?_;refine vj (i:=1) true ?_;refine vj (i:=2) false ?_;refine vj (i:=3) false ?_;refine vj (i:=4) false ?_;refine vj (i:=5) false ?_;refine vj (i:=6) false ?_;refine vj (i:=7) false ?_;refine vj (i:=8) false ?_;refine vj (i:=9) true ?_;refine vj (i:=10) false ?_;refine vj (i:=11) false ?_;refine vj (i:=12) false ?_;refine vj (i:=13) false ?_;refine vj (i:=14) false ?_;refine vj (i:=15) false ?_;refine vj (i:=16) false ?_;have j:∀q∈[((⟨b,o+i*2,Z⟩:Addr),Value.int O qx),(⟨b,o+i*2+1,Z⟩,Y O qz)],w.heap.size+1≠q.1.block:=by
    intro q x;simp at x;rcases x with rfl|rfl<;>(dsimp only;omega)
   refine jF (i:=17) fun K y=>?_;go_simp;refine kO y ⟨Da.set (p:=⟨w.heap.size+1,0,Z⟩) hA j _,fun h=>nomatch h⟩ (fun aa=>?_);clear y K;replace hA:=aa.1;refine vj (i:=18) false ?_;refine jF (i:=19) fun K y=>?_;go_simp;refine kO y ⟨Da.set (p:=⟨w.heap.size+1,1,Z⟩) hA j _,fun h=>nomatch h⟩ (fun ac=>?_);clear y K;refine jp kM ?_ _;go_wp2;go_roundw
   case rel =>
    refine⟨i+1,by go_num,by rw[S.o];omega,?_,?_,?_⟩
    ·exact((hx.drew.set (p:=⟨w.heap.size+1,0,Z⟩) dO _).set (p:=⟨w.heap.size+1,1,Z⟩) dO _)
    ·exact So (W:=wr) f.o oM _ _
    ·rw[T.o];exact Oj (W:=wr.drew) R.o _ _
   case measure=>simp[intOf];omega
  ·obtain rfl:i=n:=oM;have t0:=Ca f.o (i:=0) (u:=Y O 0) rfl;have t1:=Ca f.o (i:=1) (u:=Y O 0) rfl;have aj:=Ua f.o 0;have Wd:=Ua f.o 1;have tz:=Gb f.o;obtain⟨mx,r⟩:=m;dsimp only at m0 m1;go_wp2;exact bR (v:=I #[Y O mx,Y O r]) (by simp[results,Tryz.results164,go_sem,t0,t1,tz]) rfl ⟨Ij (by rw[Hm.o]),eA⟩
def BR(w:X)(l:LP)(t3 t4:V)(W:X):Prop:=
 ∃i:Nat,t4=Y O i/\t3=Y O (Zc l i:Nat)/\i<=l.length/\Ba w W
def iG{l:LP}{i:Nat}(h:i<l.length):Zc l i<l.length:=by
 cases i with
 | zero=>unfold Zc;omega
 | succ i=>have:=(Gv l i oM).1;omega
def SD(w:X)(v:V)(l:LP)(h:yb w v l):Calls Tryz.prog 165 #[v] w fun e w'=>e=.returned (Y O (Zc l l.length:Nat))/\Ba w w':=by
 obtain⟨a,c,rfl⟩:=h.form;obtain⟨n,Q⟩:=gX l.length;have t:=h.le;unfold maxLen at t;rw[Q]at t ⊢;have k:=Aa Q;have H:=Aa h;clear Q h;go_in;go_wp2;go_loopw [3,4] (BR w l) (fun _ t4 _=>n-(intOf t4).toNat)
 case atStart=>exact⟨0,rfl,rfl,by omega,eR _⟩
 case round =>
  obtain⟨i,rfl,rfl,hi,hx⟩:=hrel;rw[k.o]at hi;obtain⟨f,s⟩:=gX (Zc l i);rw[s];have Hf:=Aa s;by_cases u:i<n
  ·have P:f<n:=by rw[<-s,<-k.o];exact iG (by rw[k.o];exact u)
   obtain⟨b,o,rfl,hb,R,S⟩:=(H.o.f hx).pt (i:=i) (by rw[k.o];exact u);obtain⟨b2,o2,e2,aa,T,W⟩:=(H.o.f hx).pt (i:=f) (by rw[k.o];exact P);cases e2;have d:Zc l (i+1)=if (Pa l i).2<(Pa l (Zc l i)).2\/((Pa l i).2=(Pa l (Zc l i)).2/\(Pa l i).1<(Pa l (Zc l i)).1)then i else Zc l i:=rfl;rw[s]at d;obtain⟨⟨x,z⟩,hq⟩:∃q,Pa l i=q:=⟨_,rfl⟩;obtain⟨⟨j,g⟩,hp⟩:∃q,Pa l f=q:=⟨_,rfl⟩;rw[hq]at R S d;rw[hp]at T W d;dsimp only at R S T W;have g0:(0:Int)<=(i:Int):=oM;have g1:(i:Int)<(n:Int):=oM;have g2:(0:Int)<=(f:Int):=oM;have g3:(f:Int)<(n:Int):=oM;have m:=Aa d;clear s hq hp d;by_cases y:z<g
   ·have e:z<g\/(z=g/\x<j):=.inl y;have E:=Aa e;(have k1:decide (z<g)=true:=by simpa using y);clear e;go_wp2;refine Kc [(⟨b,o+i*2,Z⟩,Y O x),(⟨b,o+i*2+1,Z⟩,Y O z),(⟨b,o+f*2,Z⟩,Y O j),(⟨b,o+f*2+1,Z⟩,Y O g)] cA fun p=>?_;refine sN 0 ?_
    iterate 12 refine xb ?_
    (iterate 24 refine Ee ?_);refine xb ?_;refine oN ?_;refine Wb ?_;go_wp2;go_roundw
    case rel=>exact⟨i+1,by go_num,by rw[m.o,if_pos E.o],by rw[k.o];omega,eA⟩
    case measure=>simp[intOf];omega
   ·(have k1:decide (z<g)=false:=by simpa using y);by_cases r:z=g
    ·(have h3:(z==g)=true:=by simpa using r);by_cases K:x<j
     ·(have k2:decide (x<j)=true:=by simpa using K);have e:z<g\/(z=g/\x<j):=.inr ⟨r,K⟩;have E:=Aa e;clear r e;go_wp2;refine Kc [(⟨b,o+i*2,Z⟩,Y O x),(⟨b,o+i*2+1,Z⟩,Y O z),(⟨b,o+f*2,Z⟩,Y O j),(⟨b,o+f*2+1,Z⟩,Y O g)] cA fun p=>?_;refine sN 0 ?_
      (iterate 37 refine xb ?_);refine oN ?_;refine Wb ?_;go_wp2;go_roundw
      case rel=>exact⟨i+1,by go_num,by rw[m.o,if_pos E.o],by rw[k.o];omega,eA⟩
      case measure=>simp[intOf];omega
     ·(have k2:decide (x<j)=false:=by simpa using K);have e:¬(z<g\/(z=g/\x<j)):=oM;have E:=Aa e;clear r e;go_wp2;refine Kc [(⟨b,o+i*2,Z⟩,Y O x),(⟨b,o+i*2+1,Z⟩,Y O z),(⟨b,o+f*2,Z⟩,Y O j),(⟨b,o+f*2+1,Z⟩,Y O g)] cA fun p=>?_;refine sN 0 ?_
      (iterate 37 refine xb ?_);refine oN ?_;refine Wb ?_;go_wp2;go_roundw
      case rel=>exact⟨i+1,by go_num,by rw[m.o,if_neg E.o],by rw[k.o];omega,eA⟩
      case measure=>simp[intOf];omega
    ·(have h3:(z==g)=false:=by simpa using r);have e:¬(z<g\/(z=g/\x<j)):=oM;have E:=Aa e;clear r e;go_wp2;refine Kc [(⟨b,o+i*2,Z⟩,Y O x),(⟨b,o+i*2+1,Z⟩,Y O z),(⟨b,o+f*2,Z⟩,Y O j),(⟨b,o+f*2+1,Z⟩,Y O g)] cA fun p=>?_;refine sN 0 ?_
     iterate 24 refine xb ?_
     iterate 11 refine Ee ?_
     (iterate 2 refine xb ?_);refine oN ?_;refine Wb ?_;go_wp2;go_roundw
     case rel=>exact⟨i+1,by go_num,by rw[m.o,if_neg E.o],by rw[k.o];omega,eA⟩
     case measure=>simp[intOf];omega
  ·obtain rfl:i=n:=oM;clear s;go_wp2;go_ret;exact⟨Ij (by rw[Hf.o];rfl),eA⟩
end
section
open Go.RowKit Go.Shelf Go.Sort Go.Lib
def VK{s:Sp}{i:Nat}{a:Int}(h:(Mc s)[i]?=M a):(Jb s).getD i 0=(a:Rat):=by unfold Jb;rw[gD,lP,h];rfl
def qD(s:Sp):(Mc s).length=(Jb s).length:=by unfold Jb;rw[lL]
def Wf(s:Sp)(pin:Int):Rat×Rat:=Cb (Ib s pin) (Jb s) ((Ma s).1,(Ma s).1) (Jb s).length
section
variable {L U:LP} (rL:Gc L) (rU:Gc U) (nL:L≠[]) (nU:U≠[]) (h:(Nb L U).lo<(Nb L U).hi) {pin:Int} (hno:pd (Nb L U) pin=false)
include rL rU nL nU h hno
omit hno in
end
end
section
open Go.RowKit Go.Shelf Go.Sort
attribute [local go_sem] Oper.semAt_some
def ER(w:X)(l:LP)(t3:V)(W:X):Prop:=
 ∃i:Nat,t3=Y O i/\i<=l.length/\Ba w W/\∀j,j<i->ij l j=true
def GR(a:X)(l:LP)(i:Nat)(t4:V)(W:X):Prop:=
 ∃k:Nat,t4=Y O k/\k<=l.length/\Ba a W/\∀j,j<k->Ai l i j=true
def rJ{l:LP}{i k:Nat}(hi:i<l.length)(c:k<l.length)(h:Ai l i k=false):Lf l=false:=by
 unfold Lf;have a:ij l i=false:=by
  unfold ij;rw[List.all_eq_false];exact⟨k,List.mem_range.2 c,by simp[h]⟩
 have b:(List.range l.length).all (ij l)=false:=by
  rw[List.all_eq_false];exact⟨i,List.mem_range.2 hi,by simp[a]⟩
 rw[b,Bool.and_false]
def uu{n:Nat}{f:Nat->Bool}(h:∀j,j<n->f j=true):(List.range n).all f=true:=by rw[List.all_eq_true];exact fun j a=>h j (List.mem_range.1 a)
def lO(w:X)(v:V)(l:LP)(h:yb w v l)(hB:∀q∈l,Bd 1000000 q.1/\Bd 1000000 q.2):Calls Tryz.prog 202 #[v] w fun e w'=>e=.returned (.bool (Lf l))/\Ba w w':=by
 obtain⟨a,c,rfl⟩:=h.form;obtain⟨n,hn⟩:=gX l.length;have af:=h.le;unfold maxLen at af;rw[hn]at af ⊢;obtain⟨cb,aa⟩:=gX (Lf l);rw[aa];have P:=Aa aa;have f:=Aa hn;have H:=Aa h;have HB:=Aa hB;clear hn h hB aa;by_cases hs:n<3
 ·have e:cb=false:=by
   rw[<-P.o];unfold Lf Ta;rw[f.o];simp;omega
  subst e;have h1:(n:Int)<3:=oM;go_in;go_wp2;go_ret;exact⟨rfl,eA⟩
 by_cases an:12<n
 ·have e:cb=false:=by
   rw[<-P.o];unfold Lf Ta;rw[f.o];simp;omega
  subst e;have h1:¬(n:Int)<3:=oM;have h2:(12:Int)<(n:Int):=oM;go_in;go_wp2;go_ret;exact⟨rfl,eA⟩
 have h1:¬(n:Int)<3:=oM;have h2:¬(12:Int)<(n:Int):=oM;go_in;go_wp2;go_loopw [3] (ER w l) (fun t3 _=>n-(intOf t3).toNat)
 case atStart=>exact⟨0,rfl,by omega,eR _,fun j hj=>by omega⟩
 case round =>
  obtain⟨i,rfl,hi,hx,T⟩:=hrel;rw[f.o]at hi;have S:=Aa T;have Hx:=Aa hx;clear T;by_cases R:i<n
  ·have g0:(0:Int)<=(i:Int):=oM;have g1:(i:Int)<(n:Int):=oM;go_wp2;obtain⟨wo,rfl⟩:∃wo:X,wo=wr:=⟨_,rfl⟩;go_loopw [4] (GR wo l i) (fun t4 _=>n-(intOf t4).toNat)
   case atStart=>exact⟨0,rfl,by omega,eR _,fun j hj=>by omega⟩
   case round =>
    obtain⟨k,rfl,hk,K,u⟩:=hrel;rw[f.o]at hk;have Hk:=Aa u;have XW:=hx.trans K;clear u;by_cases ab:k<n
    ·obtain⟨b,o,rfl,hb,c0,c1⟩:=(H.o.f XW).pt (i:=i) (by rw[f.o];exact R);obtain⟨b2,o2,e2,ak,d0,d1⟩:=(H.o.f XW).pt (i:=k) (by rw[f.o];exact ab);cases e2;obtain⟨r,hr⟩:=gX ((i+1)%n);(have ai:r<n:=by rw[<-hr];exact Nat.mod_lt _ oM);(have am:Int.tmod ((i:Int)+1) (n:Int)=(r:Int):=by rw[Int.tmod_eq_emod_of_nonneg oM,<-hr,Int.natCast_emod];rfl);(have p:Ai l i k=((k==i) || ((k==r) || decide (0<qi (Pa l i) (Pa l r) (Pa l k)))):=by unfold Ai;rw[f.o,hr]);have bi:=HB.o _ (ji (l:=l) (i:=i) (by rw[f.o];exact R));have bk:=HB.o _ (ji (l:=l) (i:=k) (by rw[f.o];exact ab));have br:=HB.o _ (ji (l:=l) (i:=r) (by rw[f.o];exact ai));have x:=fun W (hW:Ba wr W)=>iO W _ l i (H.o.f (XW.trans hW)) (by rw[f.o];exact R) (by rw[f.o];omega);rw[f.o,hr]at x;obtain⟨⟨px,pz⟩,hp⟩:∃q,Pa l i=q:=⟨_,rfl⟩;obtain⟨⟨kx,kz⟩,hq⟩:∃q,Pa l k=q:=⟨_,rfl⟩;obtain⟨⟨rx,rz⟩,ag⟩:∃q,Pa l r=q:=⟨_,rfl⟩;rw[hp]at c0 c1 bi p;rw[hq]at d0 d1 bk p;rw[ag]at br p x;dsimp only at c0 c1 d0 d1 bi bk br x;have ac:=fun W=>EM W (px,pz) (rx,rz) (kx,kz) bi.1 bi.2 br.1 br.2 bk.1 bk.2;obtain⟨Sd,ae⟩:=gX (qi (px,pz) (rx,rz) (kx,kz));rw[ae]at p ac;have HN:=Aa x;have HS:=Aa ac;have Q:=Aa p;have k0:(0:Int)<=(k:Int):=oM;have k1:(k:Int)<(n:Int):=oM;have al:¬(n:Int)=0:=oM;have aj:¬n=0:=oM;have ao:IntKind.i64.wrap ((i:Int)+1)=(i:Int)+1:=iW _ oM;clear hr hp hq ag ae ac x p bi bk br;by_cases g:k=i
     ·(have e1:((k:Int) != (i:Int))=false:=by simp[g]);(have m:Ai l i k=true:=by rw[Q.o];simp[g]);have E9:=Aa m;clear g m;go_wp2;refine Kc [(⟨b,o+i*2,Z⟩,Y O px),(⟨b,o+i*2+1,Z⟩,Y O pz),(⟨b,o+k*2,Z⟩,Y O kx),(⟨b,o+k*2+1,Z⟩,Y O kz)] cA fun d=>?_;refine sN 0 ?_
      iterate 4 refine xb ?_
      iterate 7 refine Ee ?_
      iterate 2 refine xb ?_
      (iterate 13 refine Ee ?_);refine xb ?_;refine oN ?_;refine Wb ?_;go_wp2;go_roundw
      case rel=>exact⟨k+1,by go_num,by rw[f.o];omega,K.drew,fun j hj=>by
        by_cases t:j=k
        ·subst t;exact E9.o
        ·exact Hk.o j oM⟩
      case measure=>simp[intOf];omega
     ·(have e1:((k:Int) != (i:Int))=true:=by simp;omega);by_cases s:k=r
      ·(have e2:((k:Int) != (r:Int))=false:=by simp[s]);(have m:Ai l i k=true:=by rw[Q.o];simp[s]);have E9:=Aa m;clear s m g;go_wp2;refine Kc [(⟨b,o+i*2,Z⟩,Y O px),(⟨b,o+i*2+1,Z⟩,Y O pz),(⟨b,o+k*2,Z⟩,Y O kx),(⟨b,o+k*2+1,Z⟩,Y O kz)] cA fun d=>?_;refine sN 0 ?_
       iterate 13 refine xb ?_
       (iterate 13 refine Ee ?_);refine xb ?_;refine oN ?_;refine Wb ?_;go_wp2;go_roundw
       case rel=>exact⟨k+1,by go_num,by rw[f.o];omega,K.drew,fun j hj=>by
         by_cases t:j=k
         ·subst t;exact E9.o
         ·exact Hk.o j oM⟩
       case measure=>simp[intOf];omega
      ·(have e2:((k:Int) != (r:Int))=true:=by simp;omega);by_cases ad:Sd<=0
       ·(have e3:decide (Sd<=0)=true:=by simpa using ad);(have m:Ai l i k=false:=by rw[Q.o];simp[g,s];omega);(have e8:cb=false:=by rw[<-P.o];exact rJ (by rw[f.o];exact R) (by rw[f.o];exact ab) m);subst e8;clear s m g;go_wp2;refine Kc [(⟨b,o+i*2,Z⟩,Y O px),(⟨b,o+i*2+1,Z⟩,Y O pz),(⟨b,o+k*2,Z⟩,Y O kx),(⟨b,o+k*2+1,Z⟩,Y O kz)] cA fun d=>?_;refine sN 0 ?_
        (iterate 19 refine xb ?_);refine oN ?_;refine sN 20 ?_
        (iterate 4 refine xb ?_);refine oN ?_;refine Ub (i:=19) (HN.o wr.drew ((eR wr).drew)) ?_;rintro e w5 ⟨rfl,y⟩;refine⟨_,rfl,(cE d y),fun d=>?_⟩;refine Ub (i:=24) (HS.o w5) ?_;rintro e w6 ⟨rfl,z⟩;refine⟨_,rfl,(cE d z),fun d=>?_⟩;refine sN 25 ?_
        (iterate 2 refine xb ?_);refine oN ?_;refine Wb ?_;go_wp2;go_ret;exact⟨rfl,Hx.o.trans (K.trans ((eR wr).drew.trans (y.trans z)))⟩
       ·(have e3:decide (Sd<=0)=false:=by simpa using ad);(have m:Ai l i k=true:=by rw[Q.o];simp;omega);have E9:=Aa m;clear s m g;go_wp2;refine Kc [(⟨b,o+i*2,Z⟩,Y O px),(⟨b,o+i*2+1,Z⟩,Y O pz),(⟨b,o+k*2,Z⟩,Y O kx),(⟨b,o+k*2+1,Z⟩,Y O kz)] cA fun d=>?_;refine sN 0 ?_
        (iterate 19 refine xb ?_);refine oN ?_;refine sN 20 ?_
        (iterate 4 refine xb ?_);refine oN ?_;refine Ub (i:=19) (HN.o wr.drew ((eR wr).drew)) ?_;rintro e w5 ⟨rfl,y⟩;refine⟨_,rfl,(cE d y),fun d=>?_⟩;refine Ub (i:=24) (HS.o w5) ?_;rintro e w6 ⟨rfl,z⟩;refine⟨_,rfl,(cE d z),fun d=>?_⟩;refine sN 25 ?_
        (iterate 2 refine xb ?_);refine oN ?_;refine Wb ?_;go_wp2;go_roundw
        case rel=>exact⟨k+1,by go_num,by rw[f.o];omega,K.trans ((eR wr).drew.trans (y.trans z)),fun j hj=>by
          by_cases t:j=k
          ·subst t;exact E9.o
          ·exact Hk.o j oM⟩
        case measure=>simp[intOf];omega
    ·obtain rfl:k=n:=oM;(have m:ij l i=true:=by unfold ij;rw[f.o];exact uu Hk.o);have E9:=Aa m;clear m;go_wp2;go_roundw
     case rel=>exact⟨i+1,by go_num,by rw[f.o];omega,XW,fun j hj=>by
       by_cases ah:j=i
       ·subst ah;exact E9.o
       ·exact S.o j oM⟩
     case measure=>simp[intOf];omega
  ·obtain rfl:i=n:=oM;have e:cb=true:=by
    rw[<-P.o];unfold Lf Ta;rw[f.o,uu S.o];simp;omega
   subst e;go_wp2;go_ret;exact⟨rfl,eA⟩
def ZF(x z:Int)(w:X):(Instr.field 27 (I #[Y O x,Y O z]) 0).run Tryz.prog w = .ok (Y O x) w:=kM
def YF(x z:Int)(w:X):(Instr.field 27 (I #[Y O x,Y O z]) 1).run Tryz.prog w = .ok (Y O z) w:=kM
def Zx(w:X)(l:LP)(t3:V)(W:X):Prop:=
 ∃i:Nat,t3=Y O i/\i<=l.length/\Ba w W/\∀j,j<i->Ta (Pa l j).1 0 2000=true/\Ta (Pa l j).2 0 2000=true
def rI{l:LP}{i:Nat}(hi:i<l.length)(h:(Ta (Pa l i).1 0 2000&&Ta (Pa l i).2 0 2000)=false):vh l=false:=by
 unfold vh;have:(l.all fun p=>Ta p.1 0 2000&&Ta p.2 0 2000)=false:=by
  rw[List.all_eq_false];exact⟨Pa l i,ji hi,by simp only[h];decide⟩
 rw[this,Bool.false_and]
def Wz{n:Int}(h:Ta n 0 2000=true):Bd 1000000 n:=by unfold Ta at h;simp at h;unfold Bd;omega
def JP(w:X)(v:V)(l:LP)(h:yb w v l):Calls Tryz.prog 158 #[v] w fun e w'=>e=.returned (.bool (vh l))/\Ba w w':=by
 obtain⟨a,c,rfl⟩:=h.form;obtain⟨n,hn⟩:=gX l.length;have ap:=h.le;unfold maxLen at ap;rw[hn]at ap ⊢;obtain⟨cb,ah⟩:=gX (vh l);rw[ah];have ad:=Aa ah;have Hn:=Aa hn;have H:=Aa h;clear hn h ah;go_in;go_wp2;go_loopw [3] (Zx w l) (fun t3 _=>n-(intOf t3).toNat)
 case atStart=>exact⟨0,rfl,by omega,eR _,fun j hj=>by omega⟩
 case round =>
  obtain⟨i,rfl,hi,hx,ab⟩:=hrel;rw[Hn.o]at hi;have y:=Aa ab;have Hx:=Aa hx;clear ab;by_cases aq:i<n
  ·obtain⟨b,o,rfl,hb,c0,c1⟩:=(H.o.f hx).pt (i:=i) (by rw[Hn.o];exact aq);have hno:=rI (l:=l) (i:=i) (by rw[Hn.o];exact aq);have g0:(0:Int)<=(i:Int):=oM;have g1:(i:Int)<(n:Int):=oM;obtain⟨⟨x,z⟩,hp⟩:∃q,Pa l i=q:=⟨_,rfl⟩;rw[hp]at c0 c1 hno;dsimp only at c0 c1 hno;have Hp:=Aa hp;have ai:=fun W=>Kp W x 0 2000;have aj:=fun W=>Kp W z 0 2000;obtain⟨bx,af⟩:=gX (Ta x 0 2000);obtain⟨bz,ag⟩:=gX (Ta z 0 2000);rw[af]at ai hno;rw[ag]at aj hno;have ae:=Aa ai;have al:=Aa aj;have ar:=Aa af;have au:=Aa ag;clear hp ai aj af ag;cases bx with
   |false=>
    (have e:cb=false:=by rw[<-ad.o,hno rfl]);subst e;clear hno;go_wp2_with(go_at_call 159;refine cM (ae.o _) ?_;rintro e R ⟨rfl,d⟩;obtain⟨an,ao⟩:=d.cells);go_ret;exact⟨rfl,eA⟩
   |true=>
    cases bz with
    |false=>
     (have e:cb=false:=by rw[<-ad.o,hno rfl]);subst e;clear hno;go_wp2_with(first|(go_at_call 159;(with_reducible refine(ae.o _).mono ?_);rintro e R ⟨rfl,d⟩;obtain⟨an,ao⟩:=d.cells)|(go_at_call 159;(with_reducible refine(al.o _).mono ?_);rintro e w2 ⟨rfl,g⟩));go_ret;exact⟨rfl,eA⟩
    |true=>
     clear hno;go_wp2_with(first|(go_at_call 159;(with_reducible refine(ae.o _).mono ?_);rintro e R ⟨rfl,d⟩;obtain⟨an,ao⟩:=d.cells)|(go_at_call 159;(with_reducible refine(al.o _).mono ?_);rintro e w2 ⟨rfl,g⟩));go_roundw
     case rel=>exact⟨i+1,by go_num,by rw[Hn.o];omega,eA,fun j hj=>by
       by_cases av:j=i
       ·subst av;rw[Hp.o];exact⟨ar.o,au.o⟩
       ·exact y.o j oM⟩
     case measure=>simp[intOf];omega
  ·obtain rfl:i=n:=oM;have hB:∀q∈l,Bd 1000000 q.1/\Bd 1000000 q.2:=fun q hq=>by
    obtain⟨j,hj,rfl⟩:=List.getElem_of_mem hq;have:=y.o j (by rw[<-Hn.o];exact hj);rw[Ah hj]at this;exact⟨Wz this.1,Wz this.2⟩
   have hA:(l.all fun p=>Ta p.1 0 2000&&Ta p.2 0 2000)=true:=by
    rw[List.all_eq_true];intro q hq;obtain⟨j,hj,rfl⟩:=List.getElem_of_mem hq;have:=y.o j (by rw[<-Hn.o];exact hj);rw[Ah hj]at this;simp[this.1,this.2]
   have T:=fun W (hW:Ba wr W)=>lO W _ l (H.o.f (hx.trans hW)) hB;have P:=fun W (hW:Ba wr W) (aw:l≠[])=>IB W _ l (H.o.f (hx.trans hW)) aw;have aa:=fun W (hW:Ba wr W)=>SD W _ l (H.o.f (hx.trans hW));have k:cb=(Lf l&&(decide ((Va l).1=0)&&(decide ((Va l).2=0)&&decide (Zc l l.length=0)))):=by
    rw[<-ad.o];unfold vh;rw[hA,Bool.true_and]
   have Q:Lf l=true->l≠[]:=fun h9 e=>by subst e;revert h9;decide
   rw[Hn.o]at T P aa k;obtain⟨cv,ac⟩:=gX (Lf l);obtain⟨⟨mx,mz⟩,hm⟩:∃m,Va l=m:=⟨_,rfl⟩;obtain⟨f,hf⟩:=gX (Zc l i);rw[ac]at T k Q;rw[hm]at P k;rw[hf]at aa k;dsimp only at P k;have K:=Aa T;have s:=Aa P;have S:=Aa aa;have r:=Aa k;have am:=Aa Q;have ax:=ZF;have ay:=YF;clear ac hm hf T P aa k hB hA Q;cases cv with
   |false=>
    (have e:cb=false:=by rw[r.o];rfl);subst e;go_wp2_with(go_at_call 202;refine cM (K.o _ (eR _)) ?_;rintro e R ⟨rfl,d⟩);go_ret;exact⟨rfl,eA⟩
   |true=>
    have t:Sa (l≠[]):=Aa (am.o rfl);clear am;by_cases h1:mx=0
    ·by_cases h2:mz=0
     ·by_cases h3:f=0
      ·subst h1 h2 h3;(have e:cb=true:=by rw[r.o];rfl);subst e;go_wp2_with(first|(go_at_call 202;refine cM (K.o _ (eR _)) ?_;rintro e R ⟨rfl,d⟩)|(go_at_call 164;(with_reducible refine(s.o w2 (d.trans g) t.o).mono ?_);rintro e w3 ⟨rfl,u⟩)|(go_at_call 164;(with_reducible refine(s.o R d t.o).mono ?_);rintro e w2 ⟨rfl,g⟩)|(go_at_call 165;refine cM (S.o w3 (d.trans (g.trans u))) ?_;rintro e w4 ⟨rfl,ak⟩));go_ret;exact⟨rfl,eA⟩
      ·subst h1 h2;(have h4:((f:Int)==0)=false:=by simpa using h3);(have e:cb=false:=by rw[r.o];simp[h3]);subst e;clear h3;go_wp2_with(first|(go_at_call 202;refine cM (K.o _ (eR _)) ?_;rintro e R ⟨rfl,d⟩)|(go_at_call 164;(with_reducible refine(s.o w2 (d.trans g) t.o).mono ?_);rintro e w3 ⟨rfl,u⟩)|(go_at_call 164;(with_reducible refine(s.o R d t.o).mono ?_);rintro e w2 ⟨rfl,g⟩)|(go_at_call 165;refine cM (S.o w3 (d.trans (g.trans u))) ?_;rintro e w4 ⟨rfl,ak⟩));go_ret;exact⟨rfl,eA⟩
     ·subst h1;(have h4:(mz==0)=false:=by simpa using h2);(have e:cb=false:=by rw[r.o];simp[h2]);subst e;clear h2;go_wp2_with(first|(go_at_call 202;refine cM (K.o _ (eR _)) ?_;rintro e R ⟨rfl,d⟩)|(go_at_call 164;(with_reducible refine(s.o w2 (d.trans g) t.o).mono ?_);rintro e w3 ⟨rfl,u⟩)|(go_at_call 164;(with_reducible refine(s.o R d t.o).mono ?_);rintro e w2 ⟨rfl,g⟩)|(go_at_call 165;refine cM (S.o w3 (d.trans (g.trans u))) ?_;rintro e w4 ⟨rfl,ak⟩));go_ret;exact⟨rfl,eA⟩
    ·(have h4:(mx==0)=false:=by simpa using h1);(have e:cb=false:=by rw[r.o];simp[h1]);subst e;clear h1;go_wp2_with(first|(go_at_call 202;refine cM (K.o _ (eR _)) ?_;rintro e R ⟨rfl,d⟩)|(go_at_call 164;(with_reducible refine(s.o w2 (d.trans g) t.o).mono ?_);rintro e w3 ⟨rfl,u⟩)|(go_at_call 164;(with_reducible refine(s.o R d t.o).mono ?_);rintro e w2 ⟨rfl,g⟩)|(go_at_call 165;refine cM (S.o w3 (d.trans (g.trans u))) ?_;rintro e w4 ⟨rfl,ak⟩));go_ret;exact⟨rfl,eA⟩
def mR(w:X)(s:ByteArray)(t3:V)(W:X):Prop:=
 ∃i:Nat,t3=Y O i/\i<=s.size/\Ba w W/\∀j,j<i->Mf (Bi s j)=false
def uO(w:X)(s:ByteArray)(aa:s.size<=1000000):Calls Tryz.prog 157 #[.string s] w fun e w'=>e=.returned (.bool (Tj s))/\Ba w w':=by
 obtain⟨n,hn⟩:=gX s.size;obtain⟨p,v⟩:=gX (Tj s);rw[v];have r:=Aa v;have Q:=Aa hn;go_in;go_wp2;go_loopw [3] (mR w s) (fun t3 _=>n-(intOf t3).toNat)
 case atStart=>exact⟨0,rfl,by omega,eR _,fun j z=>by omega⟩
 case round =>
  obtain⟨i,rfl,hi,hx,k⟩:=hrel;have f:=Aa k;have Hx:=Aa hx;clear k;by_cases W:i<n
  ·have l:i<s.size:=oM;obtain⟨c,R⟩:∃c:Int,((s[i].toNat:Nat):Int)=c:=⟨_,rfl⟩;have t:Bi s i=c.toNat:=by
    unfold Bi;rw[<-R,Int.toNat_natCast]
    congr 1
    exact getElem!_pos s.data i l
   have S:0<=c:=oM;have u:(Bi s i:Int)=c:=by rw[t];omega
   have o:=Aa u;clear t u;have m:Mf c=true->p=false:=fun ho=>by
    rw[<-r.o];unfold Tj;have:(List.range s.size).all (fun i=>!Mf (Bi s i))=false:=by
     rw[List.all_eq_false];exact⟨i,List.mem_range.2 l,by rw[o.o,ho];decide⟩
    rw[this,Bool.false_and]
   have g:=Aa m;clear m;have a:c<48->p=false:=fun h=>g.o (by unfold Mf;simp;omega);have b:57<c/\c<97->p=false:=fun h=>g.o (by unfold Mf;simp;omega);have d:122<c->p=false:=fun h=>g.o (by unfold Mf;simp;omega);by_cases K:c<48
   ·have e:=a K;subst e;have x:c<97:=oM;clear a b d;go_wp2;go_ret;exact⟨rfl,eA⟩
   by_cases x:57<c
   ·by_cases P:c<97
    ·have e:=b ⟨x,P⟩;subst e;clear a b d;go_wp2;go_ret;exact⟨rfl,eA⟩
    ·by_cases k4:122<c
     ·have e:=d k4;subst e;clear a b d;go_wp2;go_ret;exact⟨rfl,eA⟩
     ·(have e:Mf c=false:=by unfold Mf;simp;omega);have E:=Aa e;clear a b d e;go_wp2;go_roundw
      case rel=>exact⟨i+1,by go_num,by omega,eA,fun j z=>by
        by_cases q:j=i
        ·subst q;rw[o.o];exact E.o
        ·exact f.o j oM⟩
      case measure=>simp[intOf];omega
   ·have P:c<97:=oM;(have e:Mf c=false:=by unfold Mf;simp;omega);have E:=Aa e;clear a b d e;go_wp2;go_roundw
    case rel=>exact⟨i+1,by go_num,by omega,eA,fun j z=>by
      by_cases q:j=i
      ·subst q;rw[o.o];exact E.o
      ·exact f.o j oM⟩
    case measure=>simp[intOf];omega
  ·have e:p=Ta n 1 16:=by
    rw[<-r.o];unfold Tj;have:(List.range s.size).all (fun i=>!Mf (Bi s i))=true:=uu (fun j z=>by rw[f.o j oM];rfl);rw[this,Bool.true_and,Q.o]
   have T:i=n:=oM;have E:=Aa e;clear e;unfold Ta at E;by_cases K:1<=n
   ·have x:(1:Int)<=(n:Int):=oM;(have y:p=decide ((n:Int)<=16):=by rw[E.o];simp;omega);subst y;go_wp2;go_ret;exact⟨Ij sM,eA⟩
   ·have x:¬(1:Int)<=(n:Int):=oM;(have y:p=false:=by rw[E.o];simp;omega);subst y;go_wp2;go_ret;exact⟨rfl,eA⟩
def rO(w:X)(nm:ByteArray)(v:V)(l:LP)(d de gx gz:Int)(h:yb w v l)(am:nm.size<=1000000):Calls Tryz.prog 89 #[I #[.string nm,v,Y O d,Y O de,Y O gx,Y O gz]] w fun e w'=>e=.returned (.bool (Cd (Ie nm) l d de gx gz))/\Ba w w':=by
 obtain⟨a,c,rfl⟩:=h.form;obtain⟨n,hn⟩:=gX l.length;have HN:=Aa (fun W=>uO W nm am);have HP:=Aa (fun W (hW:Ba w W)=>JP W _ l (h.f hW));have HD:=Aa (fun W=>Kp W d 1 2000);have HE:=Aa (fun W=>Kp W de 1 10000);have HX:=Aa (fun W=>Kp W gx (-100) 100);have HZ:=Aa (fun W=>Kp W gz (-100) 100);obtain⟨cb,ak⟩:=gX (Cd (Ie nm) l d de gx gz);rw[ak];unfold Cd Qd at ak;rw[<-GA,<-NG]at ak;obtain⟨nb,e1⟩:=gX (Tj nm);obtain⟨pb,e2⟩:=gX (vh l);obtain⟨bd,e3⟩:=gX (Ta d 1 2000);obtain⟨be,e4⟩:=gX (Ta de 1 10000);obtain⟨bx,e5⟩:=gX (Ta gx (-100) 100);obtain⟨bz,e6⟩:=gX (Ta gz (-100) 100);obtain⟨zx,e7⟩:=gX ((gx==0));obtain⟨zz,e8⟩:=gX ((gz==0));have e9:(gx != 0)=!zx:=by rw[<-e7];rfl
 have al:(gz != 0)=!zz:=by rw[<-e8];rfl
 rw[e1,e2,e3,e4,e5,e6,e7,e8]at ak;rw[e1]at HN;rw[hn,e2]at HP;rw[e3]at HD;rw[e4]at HE;rw[e5]at HX;rw[e6]at HZ;rw[hn];have Q:=Aa ak;clear e1 e2 e3 e4 e5 e6 e7 e8 ak h hn am;cases nb with
 |false=>
  have e:=Q.o;simp only[Bool.false_and]at e;subst e;go_in;go_wp2_with(first|(go_at_call 157;refine cM (HN.o _) ?_;rintro e m ⟨rfl,b⟩;obtain⟨⟨S,ae⟩,o,p⟩:=Zb w b;(have R:Ba w m:=eA))|(go_at_call 158;refine cM (HP.o m R) ?_;rintro e w2 ⟨rfl,f⟩;obtain⟨⟨T,af⟩,q,r⟩:=Zb w f)|(go_at_call 159;(with_reducible refine(HD.o w2).mono ?_);rintro e w3 ⟨rfl,g⟩;obtain⟨⟨aa,ag⟩,s,t⟩:=Zb w g)|(go_at_call 159;(with_reducible refine(HE.o w3).mono ?_);rintro e w4 ⟨rfl,i⟩;obtain⟨⟨ab,ah⟩,u,x⟩:=Zb w i)|(go_at_call 159;(with_reducible refine(HX.o w4).mono ?_);rintro e w5 ⟨rfl,j⟩;obtain⟨⟨ac,ai⟩,y,z⟩:=Zb w j)|(go_at_call 159;(with_reducible refine(HZ.o w5).mono ?_);rintro e w6 ⟨rfl,k⟩;obtain⟨⟨ad,aj⟩,K,P⟩:=Zb w k));go_ret;exact⟨rfl,eA⟩
 |true=>
 cases pb with
 |false=>
  have e:=Q.o;simp only[Bool.true_and,Bool.false_and]at e;subst e;go_in;go_wp2_with(first|(go_at_call 157;refine cM (HN.o _) ?_;rintro e m ⟨rfl,b⟩;obtain⟨⟨S,ae⟩,o,p⟩:=Zb w b;(have R:Ba w m:=eA))|(go_at_call 158;refine cM (HP.o m R) ?_;rintro e w2 ⟨rfl,f⟩;obtain⟨⟨T,af⟩,q,r⟩:=Zb w f)|(go_at_call 159;(with_reducible refine(HD.o w2).mono ?_);rintro e w3 ⟨rfl,g⟩;obtain⟨⟨aa,ag⟩,s,t⟩:=Zb w g)|(go_at_call 159;(with_reducible refine(HE.o w3).mono ?_);rintro e w4 ⟨rfl,i⟩;obtain⟨⟨ab,ah⟩,u,x⟩:=Zb w i)|(go_at_call 159;(with_reducible refine(HX.o w4).mono ?_);rintro e w5 ⟨rfl,j⟩;obtain⟨⟨ac,ai⟩,y,z⟩:=Zb w j)|(go_at_call 159;(with_reducible refine(HZ.o w5).mono ?_);rintro e w6 ⟨rfl,k⟩;obtain⟨⟨ad,aj⟩,K,P⟩:=Zb w k));go_ret;exact⟨rfl,eA⟩
 |true=>
 cases bd with
 |false=>
  have e:=Q.o;simp only[Bool.true_and,Bool.false_and]at e;subst e;go_in;go_wp2_with(first|(go_at_call 157;refine cM (HN.o _) ?_;rintro e m ⟨rfl,b⟩;obtain⟨⟨S,ae⟩,o,p⟩:=Zb w b;(have R:Ba w m:=eA))|(go_at_call 158;refine cM (HP.o m R) ?_;rintro e w2 ⟨rfl,f⟩;obtain⟨⟨T,af⟩,q,r⟩:=Zb w f)|(go_at_call 159;(with_reducible refine(HD.o w2).mono ?_);rintro e w3 ⟨rfl,g⟩;obtain⟨⟨aa,ag⟩,s,t⟩:=Zb w g)|(go_at_call 159;(with_reducible refine(HE.o w3).mono ?_);rintro e w4 ⟨rfl,i⟩;obtain⟨⟨ab,ah⟩,u,x⟩:=Zb w i)|(go_at_call 159;(with_reducible refine(HX.o w4).mono ?_);rintro e w5 ⟨rfl,j⟩;obtain⟨⟨ac,ai⟩,y,z⟩:=Zb w j)|(go_at_call 159;(with_reducible refine(HZ.o w5).mono ?_);rintro e w6 ⟨rfl,k⟩;obtain⟨⟨ad,aj⟩,K,P⟩:=Zb w k));go_ret;exact⟨rfl,eA⟩
 |true=>
 cases be with
 |false=>
  have e:=Q.o;simp only[Bool.true_and,Bool.false_and]at e;subst e;go_in;go_wp2_with(first|(go_at_call 157;refine cM (HN.o _) ?_;rintro e m ⟨rfl,b⟩;obtain⟨⟨S,ae⟩,o,p⟩:=Zb w b;(have R:Ba w m:=eA))|(go_at_call 158;refine cM (HP.o m R) ?_;rintro e w2 ⟨rfl,f⟩;obtain⟨⟨T,af⟩,q,r⟩:=Zb w f)|(go_at_call 159;(with_reducible refine(HD.o w2).mono ?_);rintro e w3 ⟨rfl,g⟩;obtain⟨⟨aa,ag⟩,s,t⟩:=Zb w g)|(go_at_call 159;(with_reducible refine(HE.o w3).mono ?_);rintro e w4 ⟨rfl,i⟩;obtain⟨⟨ab,ah⟩,u,x⟩:=Zb w i)|(go_at_call 159;(with_reducible refine(HX.o w4).mono ?_);rintro e w5 ⟨rfl,j⟩;obtain⟨⟨ac,ai⟩,y,z⟩:=Zb w j)|(go_at_call 159;(with_reducible refine(HZ.o w5).mono ?_);rintro e w6 ⟨rfl,k⟩;obtain⟨⟨ad,aj⟩,K,P⟩:=Zb w k));go_ret;exact⟨rfl,eA⟩
 |true=>
 cases zx with
 |false=>
  simp only[Bool.not_false]at e9;cases bx with
  |false=>
   have e:=Q.o;simp at e;subst e;go_in;go_wp2_with(first|(go_at_call 157;refine cM (HN.o _) ?_;rintro e m ⟨rfl,b⟩;obtain⟨⟨S,ae⟩,o,p⟩:=Zb w b;(have R:Ba w m:=eA))|(go_at_call 158;refine cM (HP.o m R) ?_;rintro e w2 ⟨rfl,f⟩;obtain⟨⟨T,af⟩,q,r⟩:=Zb w f)|(go_at_call 159;(with_reducible refine(HD.o w2).mono ?_);rintro e w3 ⟨rfl,g⟩;obtain⟨⟨aa,ag⟩,s,t⟩:=Zb w g)|(go_at_call 159;(with_reducible refine(HE.o w3).mono ?_);rintro e w4 ⟨rfl,i⟩;obtain⟨⟨ab,ah⟩,u,x⟩:=Zb w i)|(go_at_call 159;(with_reducible refine(HX.o w4).mono ?_);rintro e w5 ⟨rfl,j⟩;obtain⟨⟨ac,ai⟩,y,z⟩:=Zb w j)|(go_at_call 159;(with_reducible refine(HZ.o w5).mono ?_);rintro e w6 ⟨rfl,k⟩;obtain⟨⟨ad,aj⟩,K,P⟩:=Zb w k));go_ret;exact⟨rfl,eA⟩
  |true=>
   have e:=Q.o;simp at e;subst e;go_in;go_wp2_with(first|(go_at_call 157;refine cM (HN.o _) ?_;rintro e m ⟨rfl,b⟩;obtain⟨⟨S,ae⟩,o,p⟩:=Zb w b;(have R:Ba w m:=eA))|(go_at_call 158;refine cM (HP.o m R) ?_;rintro e w2 ⟨rfl,f⟩;obtain⟨⟨T,af⟩,q,r⟩:=Zb w f)|(go_at_call 159;(with_reducible refine(HD.o w2).mono ?_);rintro e w3 ⟨rfl,g⟩;obtain⟨⟨aa,ag⟩,s,t⟩:=Zb w g)|(go_at_call 159;(with_reducible refine(HE.o w3).mono ?_);rintro e w4 ⟨rfl,i⟩;obtain⟨⟨ab,ah⟩,u,x⟩:=Zb w i)|(go_at_call 159;(with_reducible refine(HX.o w4).mono ?_);rintro e w5 ⟨rfl,j⟩;obtain⟨⟨ac,ai⟩,y,z⟩:=Zb w j)|(go_at_call 159;(with_reducible refine(HZ.o w5).mono ?_);rintro e w6 ⟨rfl,k⟩;obtain⟨⟨ad,aj⟩,K,P⟩:=Zb w k));go_ret;exact⟨rfl,eA⟩
 |true=>
  simp only[Bool.not_true]at e9;cases zz with
  |true=>
   simp only[Bool.not_true]at al;have e:=Q.o;simp at e;subst e;go_in;go_wp2_with(first|(go_at_call 157;refine cM (HN.o _) ?_;rintro e m ⟨rfl,b⟩;obtain⟨⟨S,ae⟩,o,p⟩:=Zb w b;(have R:Ba w m:=eA))|(go_at_call 158;refine cM (HP.o m R) ?_;rintro e w2 ⟨rfl,f⟩;obtain⟨⟨T,af⟩,q,r⟩:=Zb w f)|(go_at_call 159;(with_reducible refine(HD.o w2).mono ?_);rintro e w3 ⟨rfl,g⟩;obtain⟨⟨aa,ag⟩,s,t⟩:=Zb w g)|(go_at_call 159;(with_reducible refine(HE.o w3).mono ?_);rintro e w4 ⟨rfl,i⟩;obtain⟨⟨ab,ah⟩,u,x⟩:=Zb w i)|(go_at_call 159;(with_reducible refine(HX.o w4).mono ?_);rintro e w5 ⟨rfl,j⟩;obtain⟨⟨ac,ai⟩,y,z⟩:=Zb w j)|(go_at_call 159;(with_reducible refine(HZ.o w5).mono ?_);rintro e w6 ⟨rfl,k⟩;obtain⟨⟨ad,aj⟩,K,P⟩:=Zb w k));go_ret;exact⟨rfl,eA⟩
  |false=>
   simp only[Bool.not_false]at al;cases bx with
   |false=>
    have e:=Q.o;simp at e;subst e;go_in;go_wp2_with(first|(go_at_call 157;refine cM (HN.o _) ?_;rintro e m ⟨rfl,b⟩;obtain⟨⟨S,ae⟩,o,p⟩:=Zb w b;(have R:Ba w m:=eA))|(go_at_call 158;refine cM (HP.o m R) ?_;rintro e w2 ⟨rfl,f⟩;obtain⟨⟨T,af⟩,q,r⟩:=Zb w f)|(go_at_call 159;(with_reducible refine(HD.o w2).mono ?_);rintro e w3 ⟨rfl,g⟩;obtain⟨⟨aa,ag⟩,s,t⟩:=Zb w g)|(go_at_call 159;(with_reducible refine(HE.o w3).mono ?_);rintro e w4 ⟨rfl,i⟩;obtain⟨⟨ab,ah⟩,u,x⟩:=Zb w i)|(go_at_call 159;(with_reducible refine(HX.o w4).mono ?_);rintro e w5 ⟨rfl,j⟩;obtain⟨⟨ac,ai⟩,y,z⟩:=Zb w j)|(go_at_call 159;(with_reducible refine(HZ.o w5).mono ?_);rintro e w6 ⟨rfl,k⟩;obtain⟨⟨ad,aj⟩,K,P⟩:=Zb w k));go_ret;exact⟨rfl,eA⟩
   |true=>
    have e:=Q.o;simp at e;subst e;go_in;go_wp2_with(first|(go_at_call 157;refine cM (HN.o _) ?_;rintro e m ⟨rfl,b⟩;obtain⟨⟨S,ae⟩,o,p⟩:=Zb w b;(have R:Ba w m:=eA))|(go_at_call 158;refine cM (HP.o m R) ?_;rintro e w2 ⟨rfl,f⟩;obtain⟨⟨T,af⟩,q,r⟩:=Zb w f)|(go_at_call 159;(with_reducible refine(HD.o w2).mono ?_);rintro e w3 ⟨rfl,g⟩;obtain⟨⟨aa,ag⟩,s,t⟩:=Zb w g)|(go_at_call 159;(with_reducible refine(HE.o w3).mono ?_);rintro e w4 ⟨rfl,i⟩;obtain⟨⟨ab,ah⟩,u,x⟩:=Zb w i)|(go_at_call 159;(with_reducible refine(HX.o w4).mono ?_);rintro e w5 ⟨rfl,j⟩;obtain⟨⟨ac,ai⟩,y,z⟩:=Zb w j)|(go_at_call 159;(with_reducible refine(HZ.o w5).mono ?_);rintro e w6 ⟨rfl,k⟩;obtain⟨⟨ad,aj⟩,K,P⟩:=Zb w k));go_ret;exact⟨rfl,eA⟩
def ou(w:X)(n:Int):Calls Tryz.prog 90 #[Y O n] w fun e c=>e=.returned (.bool (!og n))/\Ba w c:=by
 have b:(!og n)=(decide (-100000<=n)&&decide (n<=100000)):=by
  unfold og;rw[Bool.eq_iff_iff];simp
 rw[b];clear b;by_cases h:-100000<=n
 ·have a:decide (-100000<=n)=true:=by simpa using h
  go_in;go_wp2;go_ret;exact⟨by simp[a],eA⟩
 ·have a:decide (-100000<=n)=false:=by simpa using h
  go_in;go_wp2;go_ret;exact⟨by simp[a],eA⟩
def EJ(w:X)(v:V)(p:Pl)(h:yb w v p.shape)(P:p.name.size<=1000000):Calls Tryz.prog 27 #[I (Dd p v)] w fun e w'=>e=.returned (.bool (Fa p))/\Ba w w':=by
 obtain⟨nm,l,d,de,gx,gz,wy,T,az,sk⟩:=p;dsimp only at h P;obtain⟨a,c,rfl⟩:=h.form;obtain⟨n,hn⟩:=gX l.length;have hV:=fun W (hW:Ba w W)=>rO W nm _ l d de gx gz (h.f hW) P;have hX:=fun W=>ou W T;have hZ:=fun W=>ou W az;obtain⟨R,t⟩:=gX (Fa ⟨nm,l,d,de,gx,gz,wy,T,az,sk⟩);rw[t];unfold Fa Ta at t;dsimp only at t;obtain⟨vb,e1⟩:=gX (Cd (Ie nm) l d de gx gz);obtain⟨bx,e2⟩:=gX ((!og T));obtain⟨bz,e3⟩:=gX ((!og az));rw[e1,e2,e3]at t;rw[e1]at hV;rw[e2]at hX;rw[e3]at hZ;have o:=Aa t;have HV:=Aa hV;have HX:=Aa hX;have K:=Aa hZ;clear e1 e2 e3 t hV hX hZ h P;unfold Dd;dsimp only;rw[hn]at HV ⊢;clear hn;cases vb with
 |false=>
  have e:=o.o;simp at e;subst e;go_in;go_wp2_with(first|(go_at_call 89;refine cM (HV.o _ eA) ?_;rintro e i ⟨rfl,b⟩;obtain⟨⟨q,u⟩,j⟩:=Md w b;(have Q:Ba w i:=eA))|(go_at_call 90;(with_reducible refine(HX.o i).mono ?_);rintro e z ⟨rfl,f⟩;obtain⟨⟨r,x⟩,k⟩:=Md w f)|(go_at_call 90;(with_reducible refine(K.o z).mono ?_);rintro e S ⟨rfl,g⟩;obtain⟨⟨s,y⟩,m⟩:=Md w g));go_ret;exact⟨rfl,eA⟩
 |true=>
 by_cases w0:0<=wy
 case neg =>
  have e:R=false:=by rw[<-o.o];simp[w0]
  subst e;go_in;go_wp2_with(first|(go_at_call 89;refine cM (HV.o _ eA) ?_;rintro e i ⟨rfl,b⟩;obtain⟨⟨q,u⟩,j⟩:=Md w b;(have Q:Ba w i:=eA))|(go_at_call 90;(with_reducible refine(HX.o i).mono ?_);rintro e z ⟨rfl,f⟩;obtain⟨⟨r,x⟩,k⟩:=Md w f)|(go_at_call 90;(with_reducible refine(K.o z).mono ?_);rintro e S ⟨rfl,g⟩;obtain⟨⟨s,y⟩,m⟩:=Md w g));go_ret;exact⟨rfl,eA⟩
 by_cases i:wy<=7
 case neg =>
  have e:R=false:=by rw[<-o.o];simp[i]
  subst e;go_in;go_wp2_with(first|(go_at_call 89;refine cM (HV.o _ eA) ?_;rintro e i ⟨rfl,b⟩;obtain⟨⟨q,u⟩,j⟩:=Md w b;(have Q:Ba w i:=eA))|(go_at_call 90;(with_reducible refine(HX.o i).mono ?_);rintro e z ⟨rfl,f⟩;obtain⟨⟨r,x⟩,k⟩:=Md w f)|(go_at_call 90;(with_reducible refine(K.o z).mono ?_);rintro e S ⟨rfl,g⟩;obtain⟨⟨s,y⟩,m⟩:=Md w g));go_ret;exact⟨rfl,eA⟩
 cases bx with
 |false=>
  have e:R=false:=by rw[<-o.o];simp
  subst e;go_in;go_wp2_with(first|(go_at_call 89;refine cM (HV.o _ eA) ?_;rintro e i ⟨rfl,b⟩;obtain⟨⟨q,u⟩,j⟩:=Md w b;(have Q:Ba w i:=eA))|(go_at_call 90;(with_reducible refine(HX.o i).mono ?_);rintro e z ⟨rfl,f⟩;obtain⟨⟨r,x⟩,k⟩:=Md w f)|(go_at_call 90;(with_reducible refine(K.o z).mono ?_);rintro e S ⟨rfl,g⟩;obtain⟨⟨s,y⟩,m⟩:=Md w g));go_ret;exact⟨rfl,eA⟩
 |true=>
 cases bz with
 |false=>
  have e:R=false:=by rw[<-o.o];simp
  subst e;go_in;go_wp2_with(first|(go_at_call 89;refine cM (HV.o _ eA) ?_;rintro e i ⟨rfl,b⟩;obtain⟨⟨q,u⟩,j⟩:=Md w b;(have Q:Ba w i:=eA))|(go_at_call 90;(with_reducible refine(HX.o i).mono ?_);rintro e z ⟨rfl,f⟩;obtain⟨⟨r,x⟩,k⟩:=Md w f)|(go_at_call 90;(with_reducible refine(K.o z).mono ?_);rintro e S ⟨rfl,g⟩;obtain⟨⟨s,y⟩,m⟩:=Md w g));go_ret;exact⟨rfl,eA⟩
 |true=>
 by_cases s0:1<=sk
 case neg =>
  have e:R=false:=by rw[<-o.o];simp[s0]
  subst e;go_in;go_wp2_with(first|(go_at_call 89;refine cM (HV.o _ eA) ?_;rintro e i ⟨rfl,b⟩;obtain⟨⟨q,u⟩,j⟩:=Md w b;(have Q:Ba w i:=eA))|(go_at_call 90;(with_reducible refine(HX.o i).mono ?_);rintro e z ⟨rfl,f⟩;obtain⟨⟨r,x⟩,k⟩:=Md w f)|(go_at_call 90;(with_reducible refine(K.o z).mono ?_);rintro e S ⟨rfl,g⟩;obtain⟨⟨s,y⟩,m⟩:=Md w g));go_ret;exact⟨rfl,eA⟩
 have e:R=decide (sk<=3):=by rw[<-o.o];simp[w0,i,s0]
 subst e;go_in;go_wp2_with(first|(go_at_call 89;refine cM (HV.o _ eA) ?_;rintro e i ⟨rfl,b⟩;obtain⟨⟨q,u⟩,j⟩:=Md w b;(have Q:Ba w i:=eA))|(go_at_call 90;(with_reducible refine(HX.o i).mono ?_);rintro e z ⟨rfl,f⟩;obtain⟨⟨r,x⟩,k⟩:=Md w f)|(go_at_call 90;(with_reducible refine(K.o z).mono ?_);rintro e S ⟨rfl,g⟩;obtain⟨⟨s,y⟩,m⟩:=Md w g));go_ret;exact⟨rfl,eA⟩
def Ms(w:X)(a:Int×Int)(m:Nat)(t5:V)(W:X):Prop:=
 ∃i:Nat,t5=Y O i/\i<=m/\Ba w W/\W.heap[w.heap.size]?=M (.cells #[Y O (Ze i a).1,Y O (Ze i a).2] 27 (0,0))/\W.heap[w.heap.size+1]?=M (.cells #[Y O 0,Y O 0] 27 (0,0))
def Ys{p:Int×Int}(h:Bd 1000000 p.1/\Bd 1000000 p.2):∀i,Bd 1000000 (Ze i p).1/\Bd 1000000 (Ze i p).2
 | 0=>h
 | i+1=>by
  have a:=Ys h i;have e:Ze (i+1) p=(-(Ze i p).2,(Ze i p).1):=rfl;rw[e];unfold Bd at *;dsimp only;omega
def Fy{p:Int×Int}(h:Bd 1000000 p.1/\Bd 1000000 p.2)(way:Int):Bd 1000000 (tf way p).1/\Bd 1000000 (tf way p).2:=by
 unfold tf;refine Ys ?_ _;split
 ·unfold Bd at *;dsimp only;omega
 ·exact h
def JB(w:X)(p:Int×Int)(way:Int)(h0:0<=way)(h1:way<=7)(hB:Bd 1000000 p.1/\Bd 1000000 p.2):Calls Tryz.prog 94 #[I #[Y O p.1,Y O p.2],Y O way] w fun e P=>e=.returned (I #[Y O (tf way p).1,Y O (tf way p).2])/\Ba w P:=by
 obtain⟨x,z⟩:=p;dsimp only at hB ⊢;obtain⟨K,d⟩:=hB;obtain⟨m,hm⟩:=gX ((way%4).toNat);have ae:Int.tmod way 4=(m:Int):=by rw[Int.tmod_eq_emod_of_nonneg h0];omega
 have af:m<=3:=oM;have Hm:=Aa hm;clear hm;have l:4<=way->Calls Tryz.prog 94 #[I #[Y O x,Y O z],Y O way] w fun e P=>e=.returned (I #[Y O (tf way (x,z)).1,Y O (tf way (x,z)).2])/\Ba w P:=by
  intro t;have f:tf way (x,z)=Ze m (-x,z):=by unfold tf;rw[Hm.o];simp[t]
  have c:=Ys (p:=(-x,z)) ⟨by unfold Bd at *;dsimp only;omega,d⟩;rw[f];have k:=Aa c;clear f c;unfold Bd at K d;go_in;go_wp2;go_loopw [5] (Ms w (-x,z) m) (fun t5 _=>m-(intOf t5).toNat)
  case atStart =>
   refine⟨0,rfl,by omega,eA,?_,?_⟩
   ·first|exact Ch .. | exact Oj (Ch ..) _ _
   ·exact Ec _ _ _ sM
  case round =>
   obtain⟨i,rfl,hi,hx,a,b⟩:=hrel;obtain⟨⟨q,s⟩,o⟩:∃r,Ze i (-x,z)=r:=⟨_,rfl⟩;have c:=k.o i;rw[o]at a c;unfold Bd at c;dsimp only at a c;have r0:=Ca a (i:=0) (u:=Y O q) rfl;have r1:=Ca a (i:=1) (u:=Y O s) rfl;have W:=Ua a 0;have aa:=Ua a 1;have s0:=Ca b (i:=0) (u:=Y O 0) rfl;have s1:=Ca b (i:=1) (u:=Y O 0) rfl;have ac:=Ua b 0;have ad:=Ua b 1;have sz:=Gb b;have ab:=Gb a;have g:=Aa a;have j:=Aa b;have y:=Aa o;obtain⟨S,T⟩:=c;clear a b o;by_cases R:i<m
   ·have Q:(i:Int)<(m:Int):=oM;go_wp2;go_roundw
    case rel =>
     (have f:Ze (i+1) (-x,z)=(-s,q):=by rw[Ze,y.o]);refine⟨i+1,by go_num,by omega,eA,?_,?_⟩
     ·rw[f];exact Oj g.o _ _
     ·exact So j.o oM _ _
    case measure=>simp[intOf];omega
   ·obtain rfl:i=m:=oM;have Q:¬(i:Int)<(i:Int):=oM;go_wp2;exact bR (v:=I #[Y O q,Y O s]) (by simp[results,Tryz.results94,go_sem,s0,s1,sz]) rfl ⟨Ij (by rw[y.o]),eA⟩
 have n:¬4<=way->Calls Tryz.prog 94 #[I #[Y O x,Y O z],Y O way] w fun e P=>e=.returned (I #[Y O (tf way (x,z)).1,Y O (tf way (x,z)).2])/\Ba w P:=by
  intro t;have f:tf way (x,z)=Ze m (x,z):=by unfold tf;rw[Hm.o];simp[t]
  have c:=Ys (p:=(x,z)) ⟨by unfold Bd at *;dsimp only;omega,d⟩;rw[f];have k:=Aa c;clear f c;unfold Bd at K d;go_in;go_wp2;go_loopw [5] (Ms w (x,z) m) (fun t5 _=>m-(intOf t5).toNat)
  case atStart =>
   refine⟨0,rfl,by omega,eA,?_,?_⟩
   ·first|exact Ch .. | exact Oj (Ch ..) _ _
   ·exact Ec _ _ _ sM
  case round =>
   obtain⟨i,rfl,hi,hx,a,b⟩:=hrel;obtain⟨⟨q,s⟩,o⟩:∃r,Ze i (x,z)=r:=⟨_,rfl⟩;have c:=k.o i;rw[o]at a c;unfold Bd at c;dsimp only at a c;have r0:=Ca a (i:=0) (u:=Y O q) rfl;have r1:=Ca a (i:=1) (u:=Y O s) rfl;have W:=Ua a 0;have aa:=Ua a 1;have s0:=Ca b (i:=0) (u:=Y O 0) rfl;have s1:=Ca b (i:=1) (u:=Y O 0) rfl;have ac:=Ua b 0;have ad:=Ua b 1;have sz:=Gb b;have ab:=Gb a;have g:=Aa a;have j:=Aa b;have y:=Aa o;obtain⟨S,T⟩:=c;clear a b o;by_cases R:i<m
   ·have Q:(i:Int)<(m:Int):=oM;go_wp2;go_roundw
    case rel =>
     (have f:Ze (i+1) (x,z)=(-s,q):=by rw[Ze,y.o]);refine⟨i+1,by go_num,by omega,eA,?_,?_⟩
     ·rw[f];exact Oj g.o _ _
     ·exact So j.o oM _ _
    case measure=>simp[intOf];omega
   ·obtain rfl:i=m:=oM;have Q:¬(i:Int)<(i:Int):=oM;go_wp2;exact bR (v:=I #[Y O q,Y O s]) (by simp[results,Tryz.results94,go_sem,s0,s1,sz]) rfl ⟨Ij (by rw[y.o]),eA⟩
 by_cases t:4<=way
 ·exact l t
 ·exact n t
def Pq:(Tryz.prog.info? 27).map (fun i=>(i.zero,i.size,i.bytes))=M (M (I #[Y O 0,Y O 0]),2,16):=kM
def Ka.pr{w:X}{base:Nat}{v:V}{b:LP}(h:Ka 27 2 w base v (b.map pc)):yb w v b:=
 ⟨_,Ka.sl h sM (fun i c x a d=>by
  rw[lP,d]at a;cases a;rfl)⟩
def Ci(w:X)(a:LP)(e:Ending)(w':X):Prop:=∃v,e=.returned v/\Ka 27 2 w' w.heap.size v (a.map pc)/\Ba w w'
def uw{α:Type}(f:Nat->α)(i:Nat):(List.range (i+1)).map f=(List.range i).map f++[f i]:=by rw[List.range_succ,List.map_append];rfl
def Lq(W:X)(x z:Int):∀(j:Nat) u,[pc (x,z)].flatten[j]?=M u->(W.alloc (Obj.cells #[Value.int O (x),Value.int O (z)] 27)).cell? ((⟨W.heap.size,0,Z⟩:Addr).add j)=M u:=tv W x z _
def IQ(b:X)(g4:Nat)(m:Int×Int)(f:Nat->Int×Int)(n:Nat)(t3 a:V)(W:X):Prop:=
 ∃i:Nat,a=Y O i/\i<=n/\Ka 27 2 W (g4+1) t3 (((List.range i).map f).map pc)/\Ba b W/\W.heap[g4]?=M (Obj.cells #[Value.int O (m.1),Value.int O (m.2)] 27 (0,0))
def FP(w:X)(v:V)(l:LP)(h:yb w v l)(hB:∀q∈l,Bd 1000000 q.1/\Bd 1000000 q.2)(R:l≠[])(hl:l.length<=1000000):Calls Tryz.prog 95 #[v] w (Ci w (Zg l)):=by
 obtain⟨a,c,rfl⟩:=h.form;obtain⟨n,Q⟩:=gX l.length;have ak:0<n:=by rw[<-Q];exact List.length_pos_iff.2 R
 have f:=fun W (hW:Ba w W)=>IB W _ l (h.f hW) R;have p:=fun W (hW:Ba w W)=>SD W _ l (h.f hW);have ai:Zc l n<n:=by
  rw[<-Q];have e:=Gv l (n-1) oM;rw[show n-1+1=n by omega]at e;rw[Q];exact e.1
 have r:Bd 1000000 (Va l).1/\Bd 1000000 (Va l).2:=by
  rw[<-uv R];have:∀i,i<=l.length->Bd 1000000 (Ei l i).1/\Bd 1000000 (Ei l i).2:=by
   intro i;induction i with
   | zero=>intro _;exact hB _ (ji oM)
   | succ i ih =>
    intro hi;have h1:=ih oM;have h2:=hB _ (ji (l:=l) (i:=i) oM);have e:Ei l (i+1)=(min (Ei l i).1 (Pa l i).1,min (Ei l i).2 (Pa l i).2):=rfl;rw[e];unfold Bd at *;dsimp only;omega
  exact this _ (nE _)
 have y:Zg l=(List.range n).map fun i=>((Pa l ((Zc l n+i)%n)).1-(Va l).1,(Pa l ((Zc l n+i)%n)).2-(Va l).2):=by unfold Zg;rw[Q]
 rw[y];rw[Q]at f p hl ⊢;obtain⟨⟨K,mz⟩,hm⟩:∃m,Va l=m:=⟨_,rfl⟩;obtain⟨f0,aa⟩:=gX (Zc l n);rw[hm]at f r ⊢;rw[aa]at p ai ⊢;dsimp only at f r ⊢;obtain⟨F,hF⟩:∃F:Nat->Int×Int,(fun i=>((Pa l ((f0+i)%n)).1-K,(Pa l ((f0+i)%n)).2-mz))=F:=⟨_,rfl⟩;rw[hF];have HF:=Aa hF;have ah:=Aa f;have ag:=Aa p;have Hn:=Aa Q;have H:=Aa h;have HB:=Aa hB;unfold Bd at r;obtain⟨av,aw⟩:=r;clear f p Q h hB y hm aa hF;go_in;go_wp2_with(first|(go_at_call 164;refine cM (ah.o _ (eR _)) ?_;rintro e w1 ⟨rfl,ae⟩)|(go_at_call 165;refine cM (ag.o _ ae) ?_;rintro e w2 ⟨rfl,al⟩));have X2:Ba w w2:=ae.trans al;go_loopw [3,6] (IQ w2 w2.heap.size (K,mz) F n) (fun _ t6 _=>n-(intOf t6).toNat)
 case atStart=>exact⟨0,rfl,by omega,Ka.nil _ _ _ _,(eR _).alloc _,aN _ _⟩
 case round =>
  obtain⟨g4,aj⟩:=gX w2.heap.size;rw[aj]at hrel ⊢;obtain⟨i,rfl,hi,g,hx,hb⟩:=hrel;have p0:=Ca hb (i:=0) (u:=Y O K) rfl;have p1:=Ca hb (i:=1) (u:=Y O mz) rfl;have pz:=Gb hb;have Hb:=Aa hb;have XW:Ba w wr:=X2.trans hx;obtain⟨va,vn,vc,rfl⟩:=g.i;have d:=Aa g;have ay:=X2.size;clear hb g;by_cases au:i<n
  ·obtain⟨k,hk⟩:=gX ((f0+i)%n);have ab:k<n:=by rw[<-hk];exact Nat.mod_lt _ ak
   have ar:Int.tmod ((f0:Int)+(i:Int)) (n:Int)=(k:Int):=by rw[Int.tmod_eq_emod_of_nonneg oM,<-hk,Int.natCast_emod];rfl
   obtain⟨b,o,rfl,aq,c0,c1⟩:=(H.o.f XW).pt (i:=k) (by rw[Hn.o];exact ab);have bk:=HB.o _ (ji (l:=l) (i:=k) (by rw[Hn.o];exact ab));have j:F i=((Pa l k).1-K,(Pa l k).2-mz):=by rw[<-HF.o,<-hk]
   obtain⟨⟨x,z⟩,hq⟩:∃q,Pa l k=q:=⟨_,rfl⟩;rw[hq]at c0 c1 bk j;unfold Bd at bk;dsimp only at c0 c1 bk j;obtain⟨ao,ap⟩:=bk;have af:=Aa j;have g0:(0:Int)<=(k:Int):=oM;have g1:(k:Int)<(n:Int):=oM;have g2:(i:Int)<(n:Int):=oM;have ax:¬(n:Int)=0:=oM;have an:¬n=0:=oM;clear hk hq j;go_wp2_with(at_builtin;refine zh (T:=27) (t:=22) (z:=I #[Y O 0,Y O 0]) (k:=2) (bytes:=16) (base:=g4+1) (v:=J va vn vc) (m:=1) (c:=1) (ad:=⟨wr.heap.size+1,0,Z⟩) Pq rfl dM dM Tryz.underlying22 rfl _ _ rfl rfl (d.o.ext (((eR wr).alloc _).alloc _)) rfl [pc (x-K,z-mz)] rfl (by simp[pc]) (by simpa using Lq (wr.alloc (Obj.cells #[Value.int O (x),Value.int O (z)] 27)) (x-K) (z-mz)) (Ko (x-K) (z-mz)) (by rw[lL,lL,List.length_range];omega) (by simp only[wZ];omega) ?_;intro v' w5 S P am);go_roundw
   case rel =>
    have ac:=d.o.lt;have s:Below (g4+1) wr w5:=((Below.refl _ wr).alloc oM (Obj.cells #[Value.int O (x),Value.int O (z)] 27) |>.alloc (by simp;omega) (Obj.cells #[Value.int O (x-K),Value.int O (z-mz)] 27)).trans (Mh P (by simp;omega) (fun k hk=>(ac k hk).1));refine⟨i+1,by go_num,by omega,?_,hx.y s oM,?_⟩
    ·rw[uw,List.map_append,af.o];exact S
    ·rw[s.block _ oM];exact Hb.o
   case measure=>simp[intOf];omega
  ·obtain rfl:i=n:=oM;have g2:¬(i:Int)<(i:Int):=oM;go_wp2;go_ret;exact⟨_,rfl,d.o.mono oM,XW⟩
def Px(w:X)(a b:Obj)(f:Nat->Int×Int)(n:Nat)(t5 c:V)(W:X):Prop:=
 ∃i:Nat,c=Y O i/\i<=n/\Ka 27 2 W (w.heap.size+1+1) t5 (((List.range i).map f).map pc)/\Ba w W/\W.heap[w.heap.size]?=M a/\W.heap[w.heap.size+1]?=M b
def Es(w:X)(c:ByteArray)(d a:Int)(g:Int×Int)(b:LP)(e:Ending)(w':X):Prop:=
 ∃v',e=.returned (I #[.string c,v',Y O d,Y O a,Y O g.1,Y O g.2])/\Ka 27 2 w' w.heap.size v' (b.map pc)/\Ba w w'
def BM(w:X)(nm:ByteArray)(v:V)(l:LP)(d de gx gz way:Int)(h:yb w v l)(hB:∀q∈l,Bd 1000000 q.1/\Bd 1000000 q.2)(aA:l≠[])(hl:l.length<=1000000)(h0:0<=way)(h1:way<=7)(av:Bd 1000000 gx)(aw:Bd 1000000 gz):Calls Tryz.prog 33 #[I #[.string nm,v,Y O d,Y O de,Y O gx,Y O gz],Y O way] w (Es w nm d de (tf way (gx,gz)) (Kg way l)):=by
 obtain⟨a,c,rfl⟩:=h.form;obtain⟨n,hn⟩:=gX l.length;have aQ:0<n:=by rw[<-hn];exact List.length_pos_iff.2 aA
 obtain⟨F,hF⟩:∃F:Nat->Int×Int,(fun i=>tf way (Pa l (if 4<=way then n-1-i else i)))=F:=⟨_,rfl⟩;obtain⟨P,s⟩:=gX ((List.range n).map F);have ah:Kg way l=Zg P:=by unfold Kg;rw[hn,hF,s]
 have ag:P.length=n:=by rw[<-s];simp
 have ao:∀q∈P,Bd 1000000 q.1/\Bd 1000000 q.2:=by
  rw[<-s];intro q hq;obtain⟨i,hi,rfl⟩:=List.mem_map.1 hq;rw[<-hF];have hi:=List.mem_range.1 hi;refine Fy (hB _ (ji ?_)) _;split<;>omega
 rw[ah];obtain⟨⟨g1,g2⟩,hg⟩:∃g,tf way (gx,gz)=g:=⟨_,rfl⟩;have aj:=fun W=>JB W (gx,gz) way h0 h1 ⟨av,aw⟩;rw[hg]at aj ⊢;dsimp only at aj;have aE:=Aa aj;have HF:=Aa hF;have al:=Aa s;have aJ:=Aa ao;have aK:=Aa ag;have Hn:=Aa hn;have H:=Aa h;have HB:=Aa hB;rw[hn]at hl ⊢;have aB:=fun W vv (hv:yb W vv P)=>FP W vv P hv ao (by intro e;rw[e]at ag;simp at ag;omega) (by rw[ag];exact hl);have aF:=Aa aB;clear hg aj hF s ao ag hn h hB ah aB av aw aA;go_in;go_wp2;go_loopw [5,6] (Px w (Obj.cells #[Value.string nm,Value.slice a n c,Value.int O d,Value.int O de,Value.int O gx,Value.int O gz] 29) (Obj.cells #[Value.string ⟨#[]⟩,Value.slice Z 0 0,Value.int O 0,Value.int O 0,Value.int O 0,Value.int O 0] 29) F n) (fun _ t6 _=>n-(intOf t6).toNat)
 case atStart=>exact⟨0,rfl,by omega,Ka.nil _ _ _ _,eA,Ch ..,Ec _ _ _ sM⟩
 case round =>
  obtain⟨i,rfl,hi,af,hx,hb,am⟩:=hrel;have p0:=Ca hb (i:=0) (u:=.string nm) rfl;have p1:=Ca hb (i:=1) (u:=J a n c) rfl;have p2:=Ca hb (i:=2) (u:=Y O d) rfl;have p3:=Ca hb (i:=3) (u:=Y O de) rfl;have p4:=Ca hb (i:=4) (u:=Y O gx) rfl;have p5:=Ca hb (i:=5) (u:=Y O gz) rfl;have pz:=Gb am;have Hb:=Aa hb;have R:=Aa am;obtain⟨va,vn,vc,rfl⟩:=af.i;have ab:=Aa af;clear hb am af;by_cases aP:i<n
  ·obtain⟨k,hk⟩:=gX ((if 4<=way then n-1-i else i));have ax:k<n:=by rw[<-hk];split<;>omega
   obtain⟨b,o,rfl,aL,c0,c1⟩:=(H.o.f hx).pt (i:=k) (by rw[Hn.o];exact ax);have bk:=HB.o _ (ji (l:=l) (i:=k) (by rw[Hn.o];exact ax));have ai:F i=tf way (Pa l k):=by rw[<-HF.o,<-hk]
   obtain⟨⟨x,z⟩,hq⟩:∃q,Pa l k=q:=⟨_,rfl⟩;rw[hq]at c0 c1 bk ai;dsimp only at c0 c1 bk;have ak:=fun W=>JB W (x,z) way h0 h1 bk;obtain⟨⟨y1,y2⟩,hy⟩:∃y,tf way (x,z)=y:=⟨_,rfl⟩;rw[hy]at ak ai;dsimp only at ak;have aq:=Aa ai;have ar:=Aa ak;have k0:(0:Int)<=(k:Int):=oM;have k1:(k:Int)<(n:Int):=oM;have k2:(i:Int)<(n:Int):=oM;clear hq ai hy ak;by_cases aC:4<=way
   ·(have aO:(n:Int)-1-(i:Int)=(k:Int):=by rw[<-hk,if_pos aC];omega);clear hk;go_wp2_with(first|(go_at_call 94;refine cM (ar.o wr) ?_;rintro e w4 ⟨rfl,aa⟩)|(at_builtin;refine zh (T:=27) (t:=22) (z:=I #[Y O 0,Y O 0]) (k:=2) (bytes:=16) (base:=w.heap.size+1+1) (v:=J va vn vc) (m:=1) (c:=1) (ad:=⟨w4.heap.size,0,Z⟩) Pq rfl dM dM Tryz.underlying22 rfl _ _ rfl rfl (ab.o.ext (aa.alloc _)) rfl [pc (y1,y2)] rfl (by simp[pc]) (Lq w4 y1 y2) (Ko y1 y2) (by rw[lL,lL,List.length_range];omega) (by have:=aa.size;simp only[wZ];omega) ?_;intro v' w5 ae ac ay));go_roundw
    case rel =>
     have Q:=ab.o.lt;have aH:=aa.size;have r:Below (w.heap.size+1+1) wr w5:=((aa.below oM).alloc oM (Obj.cells #[Value.int O (y1),Value.int O (y2)] 27)).trans (Mh ac (by simp;omega) (fun k hk=>(Q k hk).1));refine⟨i+1,by go_num,by omega,?_,hx.y r oM,?_,?_⟩
     ·rw[uw,List.map_append,aq.o];exact ae
     ·rw[r.block _ oM];exact Hb.o
     ·rw[r.block _ oM];exact R.o
    case measure=>simp[intOf];omega
   ·(obtain rfl:i=k:=by rw[<-hk,if_neg aC]);clear hk;go_wp2_with(first|(go_at_call 94;refine cM (ar.o wr) ?_;rintro e w4 ⟨rfl,aa⟩)|(at_builtin;refine zh (T:=27) (t:=22) (z:=I #[Y O 0,Y O 0]) (k:=2) (bytes:=16) (base:=w.heap.size+1+1) (v:=J va vn vc) (m:=1) (c:=1) (ad:=⟨w4.heap.size,0,Z⟩) Pq rfl dM dM Tryz.underlying22 rfl _ _ rfl rfl (ab.o.ext (aa.alloc _)) rfl [pc (y1,y2)] rfl (by simp[pc]) (Lq w4 y1 y2) (Ko y1 y2) (by rw[lL,lL,List.length_range];omega) (by have:=aa.size;simp only[wZ];omega) ?_;intro v' w5 ae ac ay));go_roundw
    case rel =>
     have Q:=ab.o.lt;have aH:=aa.size;have r:Below (w.heap.size+1+1) wr w5:=((aa.below oM).alloc oM (Obj.cells #[Value.int O (y1),Value.int O (y2)] 27)).trans (Mh ac (by simp;omega) (fun k hk=>(Q k hk).1));refine⟨i+1,by go_num,by omega,?_,hx.y r oM,?_,?_⟩
     ·rw[uw,List.map_append,aq.o];exact ae
     ·rw[r.block _ oM];exact Hb.o
     ·rw[r.block _ oM];exact R.o
    case measure=>simp[intOf];omega
  ·obtain rfl:i=n:=oM;have k2:¬(i:Int)<(i:Int):=oM;have aR:=Ua Hb.o 1;have aS:=Ua Hb.o 4;have aT:=Ua Hb.o 5;have s0:=Ca R.o (i:=0) (u:=.string ⟨#[]⟩) rfl;have s1:=Ca R.o (i:=1) (u:=J Z 0 0) rfl;have s2:=Ca R.o (i:=2) (u:=Y O 0) rfl;have s3:=Ca R.o (i:=3) (u:=Y O 0) rfl;have s4:=Ca R.o (i:=4) (u:=Y O 0) rfl;have s5:=Ca R.o (i:=5) (u:=Y O 0) rfl;have sf:=Ua R.o;have Q:yb wr (J va vn vc) P:=by rw[<-al.o];exact ab.o.pr
   have au:=Aa Q;have zz:w.heap.size<wr.heap.size:=oM;clear Q;go_wp2;refine Nh (fun i=>decide (6<i)) (Da [(⟨w.heap.size,4,Z⟩,Y O gx),(⟨w.heap.size,5,Z⟩,Y O gz)]) kM ?_ (fun f=>?_)
   ·exact cA
   refine Sf (i:=0) ?_;refine sN 2 ?_
   iterate 3 refine Yh ?_
   refine oN ?_;refine Jc (i:=1) fun K hK=>?_;go_simp;refine cM (aF.o _ _ (au.o.f (eR wr).drew)) ?_;rintro e w8 ⟨v8,rfl,an,aD⟩;obtain⟨a8,n8,c8,rfl⟩:=an.i;go_wp2;refine kO hK (fun _=>cE f aD) (fun f=>?_);clear hK K;replace f:=f rfl;refine Sf (i:=6) ?_;refine Jc (i:=5) fun K hK=>?_;go_simp;refine cM (aE.o w8) ?_;rintro e w9 ⟨rfl,ap⟩;go_wp2;refine kO hK (fun _=>cE f ap) (fun f=>?_);clear hK K;replace f:=f rfl;have X9:Ba wr w9:=(eR wr).drew.trans (aD.trans ap);obtain⟨aG,aM⟩:=X9.cells;have aU:w.heap.size<w9.heap.size:=X9.lt zz;have aI:w.heap.size+1<w9.heap.size:=X9.lt pz;refine Jc (i:=7) fun K hK=>?_;go_simp;refine kO hK (fun h=>nomatch h) (fun f=>?_);clear hK K;refine Jc (i:=8) fun K hK=>?_;go_simp;refine kO hK (fun h=>nomatch h) (fun f=>?_);clear hK K;refine Jc (i:=9) fun K hK=>?_;go_simp;refine kO hK (fun h=>nomatch h) (fun f=>?_);clear hK K;refine Kb kM ?_ _;go_wp2;refine bR (v:=I #[.string nm,J a8 n8 c8,Y O d,Y O de,Y O g1,Y O g2]) (by simp[results,Tryz.results33,go_sem,aG,pz,aI,s0,s1,s2,s3,s4,s5]) rfl ⟨_,rfl,?_,eA⟩;have k8:Ka 27 2 w9 w.heap.size (J a8 n8 c8) ((Zg P).map pc):=(an.ext ap).mono (by have:=hx.size;simp only[Cc];omega);have az:∀j,(Value.slice a8 n8 c8).ownBlock=M j->wr.heap.size<=j:=fun j hj=>(an.lt j hj).1;have S:∀q:Nat,q<wr.heap.size->(Value.slice a8 n8 c8).ownBlock≠M q:=fun q hq e=>by have:=az q e;omega
   exact((((((((k8.setOther (p:=⟨w.heap.size,1,Z⟩) (S _ zz) _).setOther (p:=⟨w.heap.size,4,Z⟩) (S _ zz) _).setOther (p:=⟨w.heap.size,5,Z⟩) (S _ zz) _).setOther (p:=⟨w.heap.size+1,0,Z⟩) (S _ pz) _).setOther (p:=⟨w.heap.size+1,1,Z⟩) (S _ pz) _).setOther (p:=⟨w.heap.size+1,2,Z⟩) (S _ pz) _).setOther (p:=⟨w.heap.size+1,3,Z⟩) (S _ pz) _).setOther (p:=⟨w.heap.size+1,4,Z⟩) (S _ pz) _).setOther (p:=⟨w.heap.size+1,5,Z⟩) (S _ pz) _
def nH(g:ByteArray)(a:Option Addr)(m c:Nat)(d b e f:Int)(w:X):(Instr.field 29 (I #[.string g,J a m c,Y O d,Y O b,Y O e,Y O f]) 1).run Tryz.prog w = .ok (J a m c) w:=kM
structure iy (p:Pl):Prop where
 sh:∀q∈p.shape,(0<=q.1/\q.1<=2000)/\(0<=q.2/\q.2<=2000)
 ne:p.shape≠[]
 le:p.shape.length<=12
 w0:0<=p.way
 w1:p.way<=7
 ax:Bd 100000 p.ax
 az:Bd 100000 p.az
 gx:Bd 100 p.gx
 gz:Bd 100 p.gz
def uH{p:Pl}(h:Fa p=true):iy p:=by
 unfold Fa Cd Qd og Ta at h;rw[<-GA]at h;simp only[Bool.and_eq_true,Bool.not_eq_true',Bool.or_eq_false_iff,decide_eq_true_eq,decide_eq_false_iff_not]at h;obtain⟨⟨⟨⟨⟨l,a⟩,m⟩,n⟩,⟨⟨o,h6⟩,r⟩⟩,⟨i,j⟩,⟨c,d⟩,⟨yj,f⟩,g⟩:=h;unfold vh at a;simp only[Bool.and_eq_true,List.all_eq_true]at a;have b:=a.2.1;unfold Lf Ta at b;simp only[Bool.and_eq_true,decide_eq_true_eq]at b;refine⟨fun q k=>?_,fun e=>?_,by omega,i,j,by unfold Bd;omega,by unfold Bd;omega,by unfold Bd;omega,by unfold Bd;omega⟩
 ·have:=a.1 q k;unfold Ta at this;simp only[Bool.and_eq_true,decide_eq_true_eq]at this;exact⟨by omega,by omega⟩
 ·rw[e]at b;simp at b
def iy.bd{p:Pl}(h:iy p):∀q∈p.shape,Bd 1000000 q.1/\Bd 1000000 q.2:=fun q a=>by
 have:=h.sh q a;unfold Bd;omega
def QK{way:Int}{l:LP}(k:∀q∈l,Bd 1000000 q.1/\Bd 1000000 q.2)(f:l≠[]):∀q∈Kg way l,Bd 2000000 q.1/\Bd 2000000 q.2:=by
 intro q c;have m:0<l.length:=List.length_pos_iff.2 f;unfold Kg at c;obtain⟨a,g⟩:=gX (((List.range l.length).map fun i=>tf way (Pa l (if 4<=way then l.length-1-i else i))));rw[g]at c;have d:a.length=l.length:=by rw[<-g];simp
 have b:∀q∈a,Bd 1000000 q.1/\Bd 1000000 q.2:=by
  rw[<-g];intro q c;obtain⟨i,hi,rfl⟩:=List.mem_map.1 c;have hi:=List.mem_range.1 hi;refine Fy (k _ (ji ?_)) _;split<;>omega
 have p:Bd 1000000 (Va a).1/\Bd 1000000 (Va a).2:=by
  rw[<-uv (by intro e;rw[e]at d;simp at d;omega)];have:∀i,i<=a.length->Bd 1000000 (Ei a i).1/\Bd 1000000 (Ei a i).2:=by
   intro i;induction i with
   | zero=>intro _;exact b _ (ji oM)
   | succ i n =>
    intro hi;have o:=n oM;have j:=b _ (ji (l:=a) (i:=i) oM);have e:Ei a (i+1)=(min (Ei a i).1 (Pa a i).1,min (Ei a i).2 (Pa a i).2):=rfl;rw[e];unfold Bd at *;dsimp only;omega
  exact this _ (nE _)
 unfold Zg at c;obtain⟨i,hi,rfl⟩:=List.mem_map.1 c;have hi:=List.mem_range.1 hi;have j:=b _ (ji (l:=a) (i:=(Zc a a.length+i)%a.length) (Nat.mod_lt _ oM));unfold Bd at *;dsimp only;omega
def oy(b:X)(a:LP)(f:Int×Int->Int×Int)(t4 t5:V)(W:X):Prop:=
 ∃i:Nat,t5=Y O i/\i<=a.length/\Ka 27 2 W b.heap.size t4 (((a.take i).map f).map pc)/\Ba b W
def ID(w:X)(v:V)(p:Pl)(h:yb w v p.shape)(ah:Fa p=true):Calls Tryz.prog 31 #[I (Dd p v)] w (Ci w (Ga p)):=by
 rw[<-qJ];have j:=uH ah;have hB:=j.bd;have S:=QK (way:=p.way) hB j.ne;have hT:=fun W (hW:Ba w W)=>BM W p.name v p.shape p.depth p.density p.gx p.gz p.way (h.f hW) hB j.ne (by have:=j.le;omega) j.w0 j.w1 (by have:=j.gx;unfold Bd at *;omega) (by have:=j.gz;unfold Bd at *;omega);have ab:=j.ax;have ac:=j.az;have aj:(Kg p.way p.shape).length<=12:=by unfold Kg Zg;simpa using j.le
 unfold jm;obtain⟨nm,l,d,de,gx,gz,wy,Q,R,sk⟩:=p;dsimp only at h ah j hB S hT ab ac aj ⊢;obtain⟨gg,al⟩:=gX (tf wy (gx,gz));obtain⟨g,f⟩:=gX (Kg wy l);obtain⟨F,hF⟩:∃F:Int×Int->Int×Int,(fun q=>(q.1+Q,q.2+R))=F:=⟨_,rfl⟩;rw[al,f]at hT;rw[f]at S aj ⊢;rw[hF];obtain⟨a,c,rfl⟩:=h.form;obtain⟨n0,am⟩:=gX l.length;have HT:=Aa hT;have HF:=Aa hF;have au:=Aa S;unfold Bd at ab ac;obtain⟨aA,aB⟩:=ab;obtain⟨aC,aD⟩:=ac;unfold Dd;dsimp only;rw[am]at HT ⊢;clear al f hF hT S hB j ah h am;have aF:=nH;go_in;go_wp2_with(go_at_call 33;refine cM (HT.o _ eA) ?_;rintro e w2 ⟨v2,rfl,ai,ap⟩;obtain⟨a2,n2,c2,rfl⟩:=ai.i;obtain⟨⟨ae,av⟩,ay⟩:=Md w ap);have X2:Ba w w2:=eA;have f:=ai.pr;have an:=f.len;obtain⟨n,hn⟩:=gX g.length;rw[hn]at an aj;subst an;have aq:=Aa f;have Hn:=Aa hn;have b0:w2.cell? ⟨w.heap.size,7,Z⟩=M (Y O Q):=by rw[ae _ _ sM];go_simp
 have b1:w2.cell? ⟨w.heap.size,8,Z⟩=M (Y O R):=by rw[ae _ _ sM];go_simp
 clear f hn ai ap ae av;go_loopw [4,5] (oy w2 g F) (fun _ t5 _=>n2-(intOf t5).toNat)
 case atStart=>exact⟨0,rfl,by omega,Ka.nil _ _ _ _,eR _⟩
 case round =>
  obtain⟨i,rfl,hi,u,hx⟩:=hrel;rw[Hn.o]at hi;obtain⟨va,vn,vc,rfl⟩:=u.i;have r:=Aa u;have d0:=hx.d b0;have d1:=hx.d b1;clear u;by_cases ag:i<n2
  ·obtain⟨b,o,rfl,aE,c0,c1⟩:=(aq.o.f hx).pt (i:=i) (by rw[Hn.o];exact ag);have bk:=au.o _ (ji (l:=g) (i:=i) (by rw[Hn.o];exact ag));have P:(g.take (i+1)).map F=(g.take i).map F++[F (Pa g i)]:=by
    rw[Rf g i (Pa g i) (by rw[Ah (by rw[Hn.o];exact ag)];exact gE _),List.map_append];rfl
   have ak:F (Pa g i)=((Pa g i).1+Q,(Pa g i).2+R):=by rw[<-HF.o]
   rw[ak]at P;obtain⟨⟨x,z⟩,hq⟩:∃q,Pa g i=q:=⟨_,rfl⟩;rw[hq]at c0 c1 bk P;unfold Bd at bk;dsimp only at c0 c1 bk P;obtain⟨⟨x0,x1⟩,⟨z0,z1⟩⟩:=bk;have ar:=Aa P;have g0:(0:Int)<=(i:Int):=oM;have g1:(i:Int)<(n2:Int):=oM;have aH:IntKind.i64.wrap (x+Q)=x+Q:=iW _ oM;have aI:IntKind.i64.wrap (z+R)=z+R:=iW _ oM;clear hq P ak;go_wp2;refine Nh (fun i=>decide (20<i)) (Da [(⟨b,o+i*2,Z⟩,Y O x),(⟨b,o+i*2+1,Z⟩,Y O z),(⟨w.heap.size,7,Z⟩,Y O Q),(⟨w.heap.size,8,Z⟩,Y O R)]) kM ?_ (fun s=>?_)
   ·exact cA
   refine sN 0 ?_
   iterate 20 refine Yh ?_
   refine oN ?_;refine Jc (i:=20) fun K hK=>?_;go_simp;refine kO hK (fun _=>cE s ((eR wr.drew).alloc _)) (fun s=>?_);clear hK K;replace s:=s rfl;refine Jc (i:=21) fun K hK=>?_;refine ir (T:=27) (t:=22) (z:=I #[Y O 0,Y O 0]) (k:=2) (bytes:=16) (v:=J va vn vc) (base:=w2.heap.size) Pq rfl dM dM Tryz.underlying22 rfl _ _ rfl rfl (r.o.ext ((eR wr).alloc (Obj.cells #[Value.int O (x+Q),Value.int O (z+R)] 27)).drew) (ad:=⟨wr.heap.size,0,Z⟩) (m:=1) (c:=1) rfl [pc (x+Q,z+R)] rfl (by simp[pc]) (by exact Lq wr (x+Q) (z+R)) (Ko _ _) (by rw[lL,lL,List.length_take];omega) (by have:=hx.size;simp only[wZ,Cc];omega) ?_;intro v5 w5 y af aw;have ao:=r.o.lt;have aa:Below w2.heap.size wr w5:=((((eR wr).alloc (Obj.cells #[Value.int O (x+Q),Value.int O (z+R)] 27)).drew).below hx.size).trans (Mh af (by have:=hx.size;simp only[wZ,Cc];omega) (fun k hk=>(ao k hk).1));have X5:Ba w2 w5:=hx.y aa (nE _);have aG:=aa.size;refine kO hK (fun h=>nomatch h) (fun _=>?_);clear hK K;obtain⟨a5,n5,c5,rfl⟩:=y.i;refine Jc (i:=22) fun K hK=>?_;go_simp;refine kO hK (fun h=>nomatch h) (fun s=>?_);clear hK K;refine Kb kM ?_ _;go_wp2;go_roundw
   case rel=>exact⟨i+1,by go_num,by rw[Hn.o];omega,by rw[ar.o,List.map_append];exact y,X5⟩
   case measure=>simp[intOf];omega
  ·obtain rfl:i=n2:=oM;have e:(g.take i).map F=g.map F:=by rw[lT (by rw[Hn.o];omega)]
   go_wp2;go_ret;exact⟨_,rfl,by have:=r.o;rw[e]at this;exact this.mono X2.size,X2.trans hx⟩
def Er(w:X)(v:V)(l:LP)(h:yb w v l)(u:l≠[]):Calls Tryz.prog 118 #[v] w fun e T=>e=.returned (.tuple #[Y O (Pa l 0).1,Y O (Pa l (l.length-1)).1])/\Ba w T:=by
 obtain⟨a,c,rfl⟩:=h.form;obtain⟨n,g⟩:=gX l.length;have j:0<n:=by rw[<-g];exact List.length_pos_iff.2 u
 have f:=h.le;unfold maxLen at f;obtain⟨b,o,rfl,R,p,r⟩:=h.pt (i:=0) (by rw[g];exact j);obtain⟨W,o2,P,S,s,k⟩:=h.pt (i:=n-1) (by rw[g];omega);cases P;rw[g];obtain⟨⟨x,z⟩,y⟩:∃q,Pa l 0=q:=⟨_,rfl⟩;obtain⟨⟨K,z2⟩,d⟩:∃q,Pa l (n-1)=q:=⟨_,rfl⟩;obtain⟨m,t⟩:=gX (n-1);rw[t]at d s k;rw[t,y,d];rw[y]at p r;rw[d]at s k;dsimp only at p r s k ⊢;simp only[Nat.zero_mul,Nat.add_zero]at p;obtain rfl:n=m+1:=oM;have g1:(m:Int)+1-1=(m:Int):=oM;have g2:(m:Int)<(m:Int)+1:=oM;have kw:IntKind.i64.wrap (m:Int)=(m:Int):=iW _ oM;have k0:(0:Int)<=(m:Int):=Int.natCast_nonneg m;clear f j y d t g h r k;go_in;go_wp2;refine Kc [(⟨b,o,Z⟩,Y O x),(⟨b,o+m*2,Z⟩,Y O K)] cA fun Q=>?_;refine sN 0 ?_
 iterate 13 refine xb ?_
 refine oN ?_;refine Wb ?_;go_wp2;exact bR (v:=.tuple #[Y O x,Y O K]) (by simp[results,Tryz.results118,go_sem]) rfl ⟨rfl,eA⟩
