/- Part 34. -/
import Derived.Test.YtjnjpagegkcgfaaGreatDoorCosA26
import Derived.Test.YtjnjpagegkcgfaaGreatDoorCosA28
import Derived.Test.YtjnjpagegkcgfaaGreatDoorCosA21
import Derived.Test.YtjnjpagegkcgfaaGreatDoorCosA16
import Derived.Test.YtjnjpagegkcgfaaGreatDoorCosA23
import Derived.Test.YtjnjpagegkcgfaaGreatDoorCosA17
import Derived.Test.YtjnjpagegkcgfaaGreatDoorCosA11
set_option maxRecDepth 1000000
set_option maxHeartbeats 16000000
set_option linter.unusedSimpArgs false
set_option linter.unusedVariables false
open Go.IntKind renaming i64->O
open Go.Value renaming int->Y,agg->I
open Option renaming none->Z
open Go renaming World->X,Value->V
namespace Go.Proofs.YtjnjpagegkcgfaaGreatDoor.Cop
section
open Go.RowKit Go.Shelf

end
section
open Go.RowKit Go.Shelf Go.Sort Go.Lib
theorem zns(x y:Rat):rcmp x y = -1 ↔ x<y:=by
 rw[<-zdY];unfold rcmp
 rcases Int.lt_trichotomy (x.num*y.den-y.num*x.den) 0 with h|h|h
 ·rw[Int.sign_eq_neg_one_of_neg h];decide
 ·rw[h];decide
 ·rw[Int.sign_eq_one_of_pos h];decide
theorem znt(x y:Rat):rcmp x y=1 ↔ y<x:=by
 rw[<-zeZ];unfold rcmp
 rcases Int.lt_trichotomy (x.num*y.den-y.num*x.den) 0 with h|h|h
 ·rw[Int.sign_eq_neg_one_of_neg h];decide
 ·rw[h];decide
 ·rw[Int.sign_eq_one_of_pos h];decide
theorem num_lt0{q:Rat}:q.num<0 ↔ q<0:=by rw[Rat.lt_iff];simp
theorem num_gt0{q:Rat}:0<q.num ↔ 0<q:=by rw[Rat.lt_iff];simp
def EndS(o:Rat×Rat)(S:Rat->Prop):Prop:=S o.1/\S o.2/\∀x,S x->o.1<=x/\x<=o.2
theorem EndS.wid{o:Rat×Rat}{S:Rat->Prop}(h:EndS o S)(y:Rat):EndS (widR o y) fun x=>S x\/x=y:=by
 obtain⟨d,f,e⟩:=h
 have b:(widR o y).1=if y<o.1 then y else o.1:=by
  show pickR (-1) o.1 y=_
  unfold pickR;simp only[zns]
 have c:(widR o y).2=if o.2<y then y else o.2:=by
  show pickR 1 o.2 y=_
  unfold pickR;simp only[znt]
 refine⟨?_,?_,fun x a=>?_⟩
 ·rw[b];split
  ·exact .inr rfl
  ·exact .inl d
 ·rw[c];split
  ·exact .inr rfl
  ·exact .inl f
 ·rw[b,c]
  rcases a with a|rfl
  ·have:=e x a
   constructor<;>split<;>grind
  ·have:=e _ d
   constructor<;>split<;>grind
theorem EndS.of{o:Rat×Rat}{S a:Rat->Prop}(h:EndS o S)(e:∀x,a x ↔ S x):EndS o a:=by
 obtain⟨b,c,d⟩:=h;exact⟨(e _).2 b,(e _).2 c,fun x f=>d x ((e x).1 f)⟩
def RcS(f:Rat->Rat)(a:List Rat)(m:Rat):Nat->Rat->Prop
 | 0,x=>x=m
 | i+1,x=>RcS f a m i x\/(f (a.getD i 0)<=0/\x=a.getD i 0)\/(i≠0/\f (a.getD i 0)*f (a.getD (i-1) 0)<0/\x=crossR f (a.getD (i-1) 0) (a.getD i 0))
theorem sign_mul(x y:Rat):x.num.sign*y.num.sign<0 ↔ x*y<0:=by
 have e:x.num.sign = -1/\x<0\/x.num.sign=0/\x=0\/x.num.sign=1/\0<x:=by
  rcases Int.lt_trichotomy x.num 0 with h|h|h
  ·exact .inl ⟨Int.sign_eq_neg_one_of_neg h,num_lt0.1 h⟩
  ·exact .inr (.inl ⟨by rw[h];rfl,Rat.num_eq_zero.1 h⟩)
  ·exact .inr (.inr ⟨Int.sign_eq_one_of_pos h,num_gt0.1 h⟩)
 have f:y.num.sign = -1/\y<0\/y.num.sign=0/\y=0\/y.num.sign=1/\0<y:=by
  rcases Int.lt_trichotomy y.num 0 with h|h|h
  ·exact .inl ⟨Int.sign_eq_neg_one_of_neg h,num_lt0.1 h⟩
  ·exact .inr (.inl ⟨by rw[h];rfl,Rat.num_eq_zero.1 h⟩)
  ·exact .inr (.inr ⟨Int.sign_eq_one_of_pos h,num_gt0.1 h⟩)
 rcases e with ⟨a,b⟩|⟨a,b⟩|⟨a,b⟩<;>rcases f with ⟨c,d⟩|⟨c,d⟩|⟨c,d⟩<;>rw[a,c]
 ·have:=Rat.mul_pos (show 0 < -x by grind) (show 0 < -y by grind)
  exact⟨fun h=>absurd h dM,fun h=>by grind⟩
 ·rw[d,Rat.mul_zero];decide
 ·have:=Rat.mul_pos (show 0 < -x by grind) d
  exact⟨fun _=>by grind,fun _=>by decide⟩
 ·rw[b,Rat.zero_mul];decide
 ·rw[b,Rat.zero_mul];decide
 ·rw[b,Rat.zero_mul];decide
 ·have:=Rat.mul_pos b (show 0 < -y by grind)
  exact⟨fun _=>by grind,fun _=>by decide⟩
 ·rw[d,Rat.mul_zero];decide
 ·have:=Rat.mul_pos b d
  exact⟨fun h=>absurd h dM,fun h=>by grind⟩
theorem RcS.mono{f:Rat->Rat}{a:List Rat}{m:Rat}:∀{n k:Nat}{x:Rat},RcS f a m n x->n<=k->RcS f a m k x
 | n,0,x,h,b=>by
  obtain rfl:n=0:=oM
  exact h
 | n,k+1,x,h,b=>by
  by_cases e:n=k+1
  ·subst e;exact h
  ·exact .inl (RcS.mono h oM)
end
section
open Go.RowKit Go.Shelf Go.Sort
attribute [local go_sem] Oper.semAt_some
theorem zcK(w:X)(n a b:Int) :
  Calls Tryz.prog 159 #[Y O n,Y O a,Y O b] w fun e d=>e = .returned (.bool (wthn n a b))/\Ext w d:=by
 unfold wthn
 by_cases h:a<=n
 ·have c:decide (a<=n)=true:=by simpa using h
  go_enter Tryz.func159,Tryz.ntmps159;go_wp2;go_ret;exact⟨by simp[c],eA⟩
 ·have c:decide (a<=n)=false:=by simpa using h
  go_enter Tryz.func159,Tryz.ntmps159;go_wp2;go_ret;exact⟨by simp[c],eA⟩
theorem IsPr.pt{w:X}{a:Option Addr}{n c:Nat}{l:LP}(h:IsPr w (.slice a n c) l){i:Nat}(hi:i<l.length) :
  ∃b o,a=some ⟨b,o,Z⟩/\b<w.heap.size/\w.cell? ⟨b,o+i*2,Z⟩=some (Y O (ptN l i).1)/\w.cell? ⟨b,o+i*2+1,Z⟩=some (Y O (ptN l i).2):=by
 rw[zal hi];exact h.at' (gE hi)
theorem zja(w:X)(v:V)(l:LP)(i:Nat)(h:IsPr w v l)(hi:i<l.length)(s:l.length<=1000000) :
  Calls Tryz.prog 242 #[v,Y O i] w fun e u=>e = .returned (I #[Y O (ptN l ((i+1) % l.length)).1,Y O (ptN l ((i+1) % l.length)).2])/\Ext w u:=by
 obtain⟨a,c,rfl⟩:=h.form;obtain⟨n,f⟩:=gX l.length;have t:(i+1) % n<n:=Nat.mod_lt _ oM;obtain⟨k,d⟩:=gX ((i+1) % n);rw[d]at t;obtain⟨b,o,rfl,x,q,r⟩:=h.pt (i:=k) oM;rw[f,d];rw[f]at hi s;obtain⟨p,m⟩:=gX (ptN l k);rw[m]at q r ⊢
 have y:Int.tmod ((i:Int)+1) (n:Int)=(k:Int):=by
  rw[Int.tmod_eq_emod_of_nonneg oM,<-d,Int.natCast_emod];rfl
 have g:¬(n:Int)=0:=oM
 have j:((n:Int)==0)=false:=by simpa using g
 have z:(0:Int)<=(k:Int):=oM
 have D:(k:Int)<(n:Int):=oM
 clear m d h f;go_enter Tryz.func242,Tryz.ntmps242;go_wp2;exact bR (v:=I #[Y O p.1,Y O p.2]) (by simp[results,Tryz.results242,go_sem]) rfl ⟨rfl,eA⟩
theorem zl5{j k x y:Int}(e:Bd j x)(f:Bd k y)(a:0<=j):Bd (j*k) (x*y):=by
 unfold Bd at *;have b:0<=k:=oM
 have c:(x*y).natAbs<=(j*k).natAbs:=by
  rw[Int.natAbs_mul,Int.natAbs_mul];exact Nat.mul_le_mul oM oM
 have d:0<=j*k:=Int.mul_nonneg a b;omega
theorem zje(w:X)(p q r:Int×Int)(m:Bd 1000000 p.1)(n:Bd 1000000 p.2)(o:Bd 1000000 q.1)(s:Bd 1000000 q.2)(t:Bd 1000000 r.1)(u:Bd 1000000 r.2) :
  Calls Tryz.prog 241 #[I #[Y O p.1,Y O p.2],I #[Y O q.1,Y O q.2],I #[Y O r.1,Y O r.2]] w fun e D=>e = .returned (Y O (sideR p q r))/\Ext w D:=by
 obtain⟨a,b⟩:=p;obtain⟨c,d⟩:=q;obtain⟨f,g⟩:=r;unfold sideR;dsimp only at *;have v:=zl5 (j:=2000000) (k:=2000000) (x:=c-a) (y:=g-b) (by unfold Bd at *;omega) (by unfold Bd at *;omega) dM;have z:=zl5 (j:=2000000) (k:=2000000) (x:=d-b) (y:=f-a) (by unfold Bd at *;omega) (by unfold Bd at *;omega) dM;obtain⟨A,i⟩:=gX ((c-a)*(g-b));obtain⟨K,l⟩:=gX ((d-b)*(f-a));rw[i]at v ⊢;rw[l]at z ⊢;unfold Bd at *;go_enter Tryz.func241,Tryz.ntmps241;go_wp2;go_ret;exact⟨rfl,eA⟩
def lwN(l:LP):Nat->Int×Int
 | 0=>ptN l 0
 | i+1=>(min (lwN l i).1 (ptN l i).1,min (lwN l i).2 (ptN l i).2)
theorem zg5(l:LP):∀i,i<=l.length->lwN l i=(l.take i).foldl (fun o q=>(min o.1 q.1,min o.2 q.2)) (ptN l 0)
 | 0,_=>by simp[lwN]
 | i+1,h=>by
  rw[lwN,zg5 l i (by omega),zab l i (ptN l i) (by rw[zal (by omega)];exact gE _),List.foldl_append];rfl
theorem zgr{l:LP}(h:l≠[]):lwN l l.length=leastP l:=by
 rw[zg5 l l.length (nE _),List.take_length];exact zof h
def LwS(w:X)(l:LP)(t4:V)(W:X):Prop:=
 ∃i:Nat,t4=Y O i/\i<=l.length/\Ext w W/\W.heap[w.heap.size]?=some (.cells #[Y O 0,Y O 0] 27 (0,0))/\W.heap[w.heap.size+1]?=some (.cells #[Y O (lwN l i).1,Y O (lwN l i).2] 27 (0,0))
theorem zgZ(w:X)(v:V)(l:LP)(h:IsPr w v l)(k:l≠[]) :
  Calls Tryz.prog 164 #[v] w fun e w'=>e = .returned (I #[Y O (leastP l).1,Y O (leastP l).2])/\Ext w w':=by
 obtain⟨a,c,rfl⟩:=h.form;rw[<-zgr k];obtain⟨n,P⟩:=gX l.length;have af:0<n:=by rw[<-P];exact List.length_pos_iff.2 k
 have D:=h.le;unfold maxLen at D;rw[P]at D ⊢;obtain⟨b,o,rfl,hb,s,t⟩:=h.pt (i:=0) oM;obtain⟨p,hp⟩:=gX (ptN l 0);rw[hp]at s t;simp only[Nat.zero_mul,Nat.add_zero,Nat.zero_add]at s t;have Hp:=hd9 hp;have R:=hd9 P;have H:=hd9 h;clear hp P h k;go_enter Tryz.func164,Tryz.ntmps164;go_wp2
 go_loopw [4] (LwS w l) (fun t4 _=>n-(intOf t4).toNat)
 case atStart =>
  refine⟨0,rfl,by omega,eA,?_,?_⟩
  ·rw[Below.heap_alloc _ _ _ sM];exact aN _ _
  ·rw[show lwN l 0=p from Hp.out];exact qhA _ _ _ sM
 case round =>
  clear s t;obtain⟨i,rfl,hi,hx,z,d⟩:=hrel;rw[R.out]at hi;obtain⟨m,hm⟩:=gX (lwN l i);rw[hm]at d;have Hm:=hd9 hm;have m0:=qcB d (i:=0) (u:=Y O m.1) rfl;have m1:=qcB d (i:=1) (u:=Y O m.2) rfl;have ag:=qfB d 0;have ah:=qfB d 1;have mz:=zaa d;have f:=hd9 z;have Q:=hd9 d;clear hm z d
  by_cases ab:i<n
  ·obtain⟨b2,o2,e2,ad,s,t⟩:=(H.out.ext' hx).pt (i:=i) (by rw[R.out];exact ab)
   cases e2
   have ae:b<w.heap.size:=hb;obtain⟨q,x⟩:=gX (ptN l i);rw[x]at s t;have Hq:=hd9 x;have g0:(0:Int)<=(i:Int):=oM
   have g1:(i:Int)<(n:Int):=oM
   have g:lwN l (i+1)=(min m.1 q.1,min m.2 q.2):=by rw[lwN,Hm.out,Hq.out]
   have T:=hd9 g;obtain⟨mx,r⟩:=m;obtain⟨qx,qz⟩:=q;dsimp only at m0 m1 s t;have ai:¬b=w.heap.size+1:=oM
   clear x g;go_wp2;refine zdc (CellL [(⟨b,o+i*2,Z⟩,Y O qx),(⟨b,o+i*2+1,Z⟩,Y O qz)]) (CellL [(⟨w.heap.size+1,0,Z⟩,Y O mx),(⟨w.heap.size+1,1,Z⟩,Y O r)]) 17 kM cA cA (fun hA hB=>?_);refine tv1 (i:=0) false ?_;refine tv1 (i:=1) true ?_;refine tv1 (i:=2) false ?_;refine tv1 (i:=3) false ?_;refine tv1 (i:=4) false ?_;refine tv1 (i:=5) false ?_;refine tv1 (i:=6) false ?_;refine tv1 (i:=7) false ?_;refine tv1 (i:=8) false ?_;refine tv1 (i:=9) true ?_;refine tv1 (i:=10) false ?_;refine tv1 (i:=11) false ?_;refine tv1 (i:=12) false ?_;refine tv1 (i:=13) false ?_;refine tv1 (i:=14) false ?_;refine tv1 (i:=15) false ?_;refine tv1 (i:=16) false ?_
   have j:∀q∈[((⟨b,o+i*2,Z⟩:Addr),Value.int O qx),(⟨b,o+i*2+1,Z⟩,Y O qz)],w.heap.size+1≠q.1.block:=by
    intro q x;simp at x
    rcases x with rfl|rfl<;>(dsimp only;omega)
   refine cv1 (i:=17) fun K y=>?_
   go_simp;refine kO y ⟨CellL.set (p:=⟨w.heap.size+1,0,Z⟩) hA j _,fun h=>nomatch h⟩ (fun aa=>?_);clear y K
   replace hA:=aa.1
   refine tv1 (i:=18) false ?_;refine cv1 (i:=19) fun K y=>?_
   go_simp;refine kO y ⟨CellL.set (p:=⟨w.heap.size+1,1,Z⟩) hA j _,fun h=>nomatch h⟩ (fun ac=>?_);clear y K;refine doneHV kM ?_ _;go_wp2
   go_roundw
   case rel =>
    refine⟨i+1,by go_num,by rw[R.out];omega,?_,?_,?_⟩
    ·exact((hx.drew.set (p:=⟨w.heap.size+1,0,Z⟩) dO _).set (p:=⟨w.heap.size+1,1,Z⟩) dO _)
    ·exact zaL (W:=wr) f.out oM _ _
    ·rw[T.out];exact zaj (W:=wr.drew) Q.out _ _
   case measure=>simp[intOf];omega
  ·obtain rfl:i=n:=oM
   have t0:=qcB f.out (i:=0) (u:=Y O 0) rfl;have t1:=qcB f.out (i:=1) (u:=Y O 0) rfl;have aj:=qfB f.out 0;have tf1:=qfB f.out 1;have tz:=zaa f.out;obtain⟨mx,r⟩:=m;dsimp only at m0 m1;go_wp2;exact bR (v:=I #[Y O mx,Y O r]) (by simp[results,Tryz.results164,go_sem,t0,t1,tz]) rfl ⟨zbh (by rw[Hm.out]),eA⟩
def FiS(w:X)(l:LP)(t3 t4:V)(W:X):Prop:=
 ∃i:Nat,t4=Y O i/\t3=Y O (firN l i:Nat)/\i<=l.length/\Ext w W
theorem znY{l:LP}{i:Nat}(h:i<l.length):firN l i<l.length:=by
 cases i with
 | zero=>unfold firN;omega
 | succ i=>have:=(zge l i oM).1;omega
theorem zes(w:X)(v:V)(l:LP)(h:IsPr w v l) :
  Calls Tryz.prog 165 #[v] w fun e w'=>e = .returned (Y O (firN l l.length:Nat))/\Ext w w':=by
 obtain⟨a,c,rfl⟩:=h.form;obtain⟨n,P⟩:=gX l.length;have t:=h.le;unfold maxLen at t;rw[P]at t ⊢;have k:=hd9 P;have H:=hd9 h;clear P h;go_enter Tryz.func165,Tryz.ntmps165;go_wp2
 go_loopw [3,4] (FiS w l) (fun _ t4 _=>n-(intOf t4).toNat)
 case atStart=>exact⟨0,rfl,rfl,by omega,eR _⟩
 case round =>
  obtain⟨i,rfl,rfl,hi,hx⟩:=hrel;rw[k.out]at hi;obtain⟨f,s⟩:=gX (firN l i);rw[s];have Hf:=hd9 s
  by_cases u:i<n
  ·have K:f<n:=by rw[<-s,<-k.out];exact znY (by rw[k.out];exact u)
   obtain⟨b,o,rfl,hb,Q,R⟩:=(H.out.ext' hx).pt (i:=i) (by rw[k.out];exact u);obtain⟨b2,o2,e2,aa,T,W⟩:=(H.out.ext' hx).pt (i:=f) (by rw[k.out];exact K)
   cases e2
   have d:firN l (i+1)=if (ptN l i).2<(ptN l (firN l i)).2\/((ptN l i).2=(ptN l (firN l i)).2/\(ptN l i).1<(ptN l (firN l i)).1)then i else firN l i:=rfl
   rw[s]at d;obtain⟨⟨x,z⟩,hq⟩:∃q,ptN l i=q:=⟨_,rfl⟩;obtain⟨⟨j,g⟩,hp⟩:∃q,ptN l f=q:=⟨_,rfl⟩;rw[hq]at Q R d;rw[hp]at T W d;dsimp only at Q R T W;have g0:(0:Int)<=(i:Int):=oM
   have g1:(i:Int)<(n:Int):=oM
   have g2:(0:Int)<=(f:Int):=oM
   have g3:(f:Int)<(n:Int):=oM
   have m:=hd9 d;clear s hq hp d
   by_cases y:z<g
   ·have e:z<g\/(z=g/\x<j):=.inl y
    have E:=hd9 e;have k1:decide (z<g)=true:=by simpa using y
    clear e;go_wp2;refine wp_region_held_drew (S:=CellL [(⟨b,o+i*2,Z⟩,Y O x),(⟨b,o+i*2+1,Z⟩,Y O z),(⟨b,o+f*2,Z⟩,Y O j),(⟨b,o+f*2+1,Z⟩,Y O g)]) kM cA (fun p=>?_);refine sN 0 ?_
    iterate 12
     refine tkn ?_
    iterate 24
     refine tkgn ?_
    refine tkn ?_;refine oN ?_;refine wpAnyH_done kM ?_ _;go_wp2
    go_roundw
    case rel=>exact⟨i+1,by go_num,by rw[m.out,if_pos E.out],by rw[k.out];omega,eA⟩
    case measure=>simp[intOf];omega
   ·have k1:decide (z<g)=false:=by simpa using y
    by_cases r:z=g
    ·have h3:(z==g)=true:=by simpa using r
     by_cases D:x<j
     ·have k2:decide (x<j)=true:=by simpa using D
      have e:z<g\/(z=g/\x<j):=.inr ⟨r,D⟩;have E:=hd9 e;clear r e;go_wp2;refine wp_region_held_drew (S:=CellL [(⟨b,o+i*2,Z⟩,Y O x),(⟨b,o+i*2+1,Z⟩,Y O z),(⟨b,o+f*2,Z⟩,Y O j),(⟨b,o+f*2+1,Z⟩,Y O g)]) kM cA (fun p=>?_);refine sN 0 ?_
      iterate 37
       refine tkn ?_
      refine oN ?_;refine wpAnyH_done kM ?_ _;go_wp2
      go_roundw
      case rel=>exact⟨i+1,by go_num,by rw[m.out,if_pos E.out],by rw[k.out];omega,eA⟩
      case measure=>simp[intOf];omega
     ·have k2:decide (x<j)=false:=by simpa using D
      have e:¬(z<g\/(z=g/\x<j)):=oM
      have E:=hd9 e;clear r e;go_wp2;refine wp_region_held_drew (S:=CellL [(⟨b,o+i*2,Z⟩,Y O x),(⟨b,o+i*2+1,Z⟩,Y O z),(⟨b,o+f*2,Z⟩,Y O j),(⟨b,o+f*2+1,Z⟩,Y O g)]) kM cA (fun p=>?_);refine sN 0 ?_
      iterate 37
       refine tkn ?_
      refine oN ?_;refine wpAnyH_done kM ?_ _;go_wp2
      go_roundw
      case rel=>exact⟨i+1,by go_num,by rw[m.out,if_neg E.out],by rw[k.out];omega,eA⟩
      case measure=>simp[intOf];omega
    ·have h3:(z==g)=false:=by simpa using r
     have e:¬(z<g\/(z=g/\x<j)):=oM
     have E:=hd9 e;clear r e;go_wp2;refine wp_region_held_drew (S:=CellL [(⟨b,o+i*2,Z⟩,Y O x),(⟨b,o+i*2+1,Z⟩,Y O z),(⟨b,o+f*2,Z⟩,Y O j),(⟨b,o+f*2+1,Z⟩,Y O g)]) kM cA (fun p=>?_);refine sN 0 ?_
     iterate 24
      refine tkn ?_
     iterate 11
      refine tkgn ?_
     iterate 2
      refine tkn ?_
     refine oN ?_;refine wpAnyH_done kM ?_ _;go_wp2
     go_roundw
     case rel=>exact⟨i+1,by go_num,by rw[m.out,if_neg E.out],by rw[k.out];omega,eA⟩
     case measure=>simp[intOf];omega
  ·obtain rfl:i=n:=oM
   clear s;go_wp2;go_ret;exact⟨zbh (by rw[Hf.out];rfl),eA⟩
end
section
open Go.RowKit Go.Shelf Go.Sort Go.Lib
section
variable {L U:LP} (rL:Rise L) (rU:Rise U) (nL:L≠[]) (nU:U≠[]) (h:(btw L U).lo<(btw L U).hi) {pin:Int} (hno:reachNo (btw L U) pin=false)
include rL rU nL nU h hno
omit hno in
end
end
section
open Go.RowKit Go.Shelf Go.Sort
attribute [local go_sem] Oper.semAt_some
def CvO(w:X)(l:LP)(t3:V)(W:X):Prop:=
 ∃i:Nat,t3=Y O i/\i<=l.length/\Ext w W/\∀j,j<i->cvxI l j=true
def CvI(a:X)(l:LP)(i:Nat)(t4:V)(W:X):Prop:=
 ∃k:Nat,t4=Y O k/\k<=l.length/\Ext a W/\∀j,j<k->cvxK l i j=true
theorem zmQ{l:LP}{i k:Nat}(hi:i<l.length)(c:k<l.length)(h:cvxK l i k=false):convR l=false:=by
 unfold convR
 have a:cvxI l i=false:=by
  unfold cvxI;rw[List.all_eq_false];exact⟨k,List.mem_range.2 c,by simp[h]⟩
 have b:(List.range l.length).all (cvxI l)=false:=by
  rw[List.all_eq_false];exact⟨i,List.mem_range.2 hi,by simp[a]⟩
 rw[b,Bool.and_false]
theorem zdn{n:Nat}{f:Nat->Bool}(h:∀j,j<n->f j=true):(List.range n).all f=true:=by
 rw[List.all_eq_true];exact fun j a=>h j (List.mem_range.1 a)
theorem zi5(w:X)(v:V)(l:LP)(h:IsPr w v l)(hB:∀q∈l,Bd 1000000 q.1/\Bd 1000000 q.2) :
  Calls Tryz.prog 202 #[v] w fun e w'=>e = .returned (.bool (convR l))/\Ext w w':=by
 obtain⟨a,c,rfl⟩:=h.form;obtain⟨n,hn⟩:=gX l.length;have ah:=h.le;unfold maxLen at ah;rw[hn]at ah ⊢;obtain⟨cb,ac⟩:=gX (convR l);rw[ac];have Q:=hd9 ac;have f:=hd9 hn;have H:=hd9 h;have HB:=hd9 hB;clear hn h hB ac
 by_cases hs:n<3
 ·have e:cb=false:=by
   rw[<-Q.out];unfold convR wthn;rw[f.out];simp;omega
  subst e;have h1:(n:Int)<3:=oM
  go_enter Tryz.func202,Tryz.ntmps202;go_wp2;go_ret;exact⟨rfl,eA⟩
 by_cases ap:12<n
 ·have e:cb=false:=by
   rw[<-Q.out];unfold convR wthn;rw[f.out];simp;omega
  subst e;have h1:¬(n:Int)<3:=oM
  have h2:(12:Int)<(n:Int):=oM
  go_enter Tryz.func202,Tryz.ntmps202;go_wp2;go_ret;exact⟨rfl,eA⟩
 have h1:¬(n:Int)<3:=oM
 have h2:¬(12:Int)<(n:Int):=oM
 go_enter Tryz.func202,Tryz.ntmps202;go_wp2
 go_loopw [3] (CvO w l) (fun t3 _=>n-(intOf t3).toNat)
 case atStart=>exact⟨0,rfl,by omega,eR _,fun j hj=>by omega⟩
 case round =>
  obtain⟨i,rfl,hi,hx,ab⟩:=hrel;rw[f.out]at hi;have aa:=hd9 ab;have Hx:=hd9 hx;clear ab
  by_cases T:i<n
  ·have g0:(0:Int)<=(i:Int):=oM
   have g1:(i:Int)<(n:Int):=oM
   go_wp2;obtain⟨wo,rfl⟩:∃wo:X,wo=wr:=⟨_,rfl⟩
   go_loopw [4] (CvI wo l i) (fun t4 _=>n-(intOf t4).toNat)
   case atStart=>exact⟨0,rfl,by omega,eR _,fun j hj=>by omega⟩
   case round =>
    obtain⟨k,rfl,hk,P,x⟩:=hrel;rw[f.out]at hk;have Hk:=hd9 x;have XW:=hx.trans P;clear x
    by_cases ad:k<n
    ·obtain⟨b,o,rfl,hb,c0,c1⟩:=(H.out.ext' XW).pt (i:=i) (by rw[f.out];exact T)
     obtain⟨b2,o2,e2,am,d0,d1⟩:=(H.out.ext' XW).pt (i:=k) (by rw[f.out];exact ad)
     cases e2
     obtain⟨r,hr⟩:=gX ((i+1) % n);have ak:r<n:=by rw[<-hr];exact Nat.mod_lt _ oM
     have ao:Int.tmod ((i:Int)+1) (n:Int)=(r:Int):=by rw[Int.tmod_eq_emod_of_nonneg oM,<-hr,Int.natCast_emod];rfl
     have p:cvxK l i k=((k==i) || ((k==r) || decide (0<sideR (ptN l i) (ptN l r) (ptN l k)))):=by unfold cvxK;rw[f.out,hr]
     have bi:=HB.out _ (zaw (l:=l) (i:=i) (by rw[f.out];exact T));have bk:=HB.out _ (zaw (l:=l) (i:=k) (by rw[f.out];exact ad));have br:=HB.out _ (zaw (l:=l) (i:=r) (by rw[f.out];exact ak));have y:=fun W (hW:Ext wr W)=>zja W _ l i (H.out.ext' (XW.trans hW)) (by rw[f.out];exact T) (by rw[f.out];omega)
     rw[f.out,hr]at y;obtain⟨⟨px,pz⟩,hp⟩:∃q,ptN l i=q:=⟨_,rfl⟩;obtain⟨⟨kx,kz⟩,hq⟩:∃q,ptN l k=q:=⟨_,rfl⟩;obtain⟨⟨rx,rz⟩,ai⟩:∃q,ptN l r=q:=⟨_,rfl⟩;rw[hp]at c0 c1 bi p;rw[hq]at d0 d1 bk p;rw[ai]at br p y;dsimp only at c0 c1 d0 d1 bi bk br y;have ae:=fun W=>zje W (px,pz) (rx,rz) (kx,kz) bi.1 bi.2 br.1 br.2 bk.1 bk.2
     obtain⟨Sd,ag⟩:=gX (sideR (px,pz) (rx,rz) (kx,kz));rw[ag]at p ae;have HN:=hd9 y;have HS:=hd9 ae;have R:=hd9 p;have k0:(0:Int)<=(k:Int):=oM
     have k1:(k:Int)<(n:Int):=oM
     have an:¬(n:Int)=0:=oM
     have al:¬n=0:=oM
     have aq:IntKind.i64.wrap ((i:Int)+1)=(i:Int)+1:=iW _ oM;clear hr hp hq ai ag ae y p bi bk br
     by_cases g:k=i
     ·have e1:((k:Int) != (i:Int))=false:=by simp[g]
      have m:cvxK l i k=true:=by rw[R.out];simp[g]
      have E9:=hd9 m;clear g m;go_wp2;refine wp_region_held_drew (S:=CellL [(⟨b,o+i*2,Z⟩,Y O px),(⟨b,o+i*2+1,Z⟩,Y O pz),(⟨b,o+k*2,Z⟩,Y O kx),(⟨b,o+k*2+1,Z⟩,Y O kz)]) kM cA (fun d=>?_);refine sN 0 ?_
      iterate 4
       refine tkn ?_
      iterate 7
       refine tkgn ?_
      iterate 2
       refine tkn ?_
      iterate 13
       refine tkgn ?_
      refine tkn ?_;refine oN ?_;refine wpAnyH_done kM ?_ _;go_wp2
      go_roundw
      case rel=>exact⟨k+1,by go_num,by rw[f.out];omega,P.drew,fun j hj=>by
        by_cases u:j=k
        ·subst u;exact E9.out
        ·exact Hk.out j oM⟩
      case measure=>simp[intOf];omega
     ·have e1:((k:Int) != (i:Int))=true:=by simp;omega
      by_cases s:k=r
      ·have e2:((k:Int) != (r:Int))=false:=by simp[s]
       have m:cvxK l i k=true:=by rw[R.out];simp[s]
       have E9:=hd9 m;clear s m g;go_wp2;refine wp_region_held_drew (S:=CellL [(⟨b,o+i*2,Z⟩,Y O px),(⟨b,o+i*2+1,Z⟩,Y O pz),(⟨b,o+k*2,Z⟩,Y O kx),(⟨b,o+k*2+1,Z⟩,Y O kz)]) kM cA (fun d=>?_);refine sN 0 ?_
       iterate 13
        refine tkn ?_
       iterate 13
        refine tkgn ?_
       refine tkn ?_;refine oN ?_;refine wpAnyH_done kM ?_ _;go_wp2
       go_roundw
       case rel=>exact⟨k+1,by go_num,by rw[f.out];omega,P.drew,fun j hj=>by
         by_cases u:j=k
         ·subst u;exact E9.out
         ·exact Hk.out j oM⟩
       case measure=>simp[intOf];omega
      ·have e2:((k:Int) != (r:Int))=true:=by simp;omega
       by_cases af:Sd<=0
       ·have e3:decide (Sd<=0)=true:=by simpa using af
        have m:cvxK l i k=false:=by rw[R.out];simp[g,s];omega
        have e8:cb=false:=by rw[<-Q.out];exact zmQ (by rw[f.out];exact T) (by rw[f.out];exact ad) m
        subst e8;clear s m g;go_wp2;refine wp_region_held_drew (S:=CellL [(⟨b,o+i*2,Z⟩,Y O px),(⟨b,o+i*2+1,Z⟩,Y O pz),(⟨b,o+k*2,Z⟩,Y O kx),(⟨b,o+k*2+1,Z⟩,Y O kz)]) kM cA (fun d=>?_);refine sN 0 ?_
        iterate 19
         refine tkn ?_
        refine oN ?_;refine sN 20 ?_
        iterate 4
         refine tkn ?_
        refine oN ?_;refine cl1 (i:=19) fun K t=>?_
        go_simp
        (with_reducible refine cM (HN.out wr.drew ((eR wr).drew)) ?_)
        rintro e w5 ⟨rfl,z⟩
        go_wp2_with fail
        refine kO t (cE d z) (fun d=>?_);clear t K;refine cl1 (i:=24) fun K t=>?_
        go_simp
        (with_reducible refine cM (HS.out w5) ?_)
        rintro e w6 ⟨rfl,D⟩
        go_wp2_with fail
        refine kO t (cE d D) (fun d=>?_);clear t K;refine sN 25 ?_
        iterate 2
         refine tkn ?_
        refine oN ?_;refine wpAnyH_done kM ?_ _;go_wp2;go_ret;exact⟨rfl,Hx.out.trans (P.trans ((eR wr).drew.trans (z.trans D)))⟩
       ·have e3:decide (Sd<=0)=false:=by simpa using af
        have m:cvxK l i k=true:=by rw[R.out];simp;omega
        have E9:=hd9 m;clear s m g;go_wp2;refine wp_region_held_drew (S:=CellL [(⟨b,o+i*2,Z⟩,Y O px),(⟨b,o+i*2+1,Z⟩,Y O pz),(⟨b,o+k*2,Z⟩,Y O kx),(⟨b,o+k*2+1,Z⟩,Y O kz)]) kM cA (fun d=>?_);refine sN 0 ?_
        iterate 19
         refine tkn ?_
        refine oN ?_;refine sN 20 ?_
        iterate 4
         refine tkn ?_
        refine oN ?_;refine cl1 (i:=19) fun K t=>?_
        go_simp
        (with_reducible refine cM (HN.out wr.drew ((eR wr).drew)) ?_)
        rintro e w5 ⟨rfl,z⟩
        go_wp2_with fail
        refine kO t (cE d z) (fun d=>?_);clear t K;refine cl1 (i:=24) fun K t=>?_
        go_simp
        (with_reducible refine cM (HS.out w5) ?_)
        rintro e w6 ⟨rfl,D⟩
        go_wp2_with fail
        refine kO t (cE d D) (fun d=>?_);clear t K;refine sN 25 ?_
        iterate 2
         refine tkn ?_
        refine oN ?_;refine wpAnyH_done kM ?_ _;go_wp2
        go_roundw
        case rel=>exact⟨k+1,by go_num,by rw[f.out];omega,P.trans ((eR wr).drew.trans (z.trans D)),fun j hj=>by
          by_cases u:j=k
          ·subst u;exact E9.out
          ·exact Hk.out j oM⟩
        case measure=>simp[intOf];omega
    ·obtain rfl:k=n:=oM
     have m:cvxI l i=true:=by unfold cvxI;rw[f.out];exact zdn Hk.out
     have E9:=hd9 m;clear m;go_wp2
     go_roundw
     case rel=>exact⟨i+1,by go_num,by rw[f.out];omega,XW,fun j hj=>by
       by_cases aj:j=i
       ·subst aj;exact E9.out
       ·exact aa.out j oM⟩
     case measure=>simp[intOf];omega
  ·obtain rfl:i=n:=oM
   have e:cb=true:=by
    rw[<-Q.out];unfold convR wthn;rw[f.out,zdn aa.out];simp;omega
   subst e;go_wp2;go_ret;exact⟨rfl,eA⟩
theorem znZ(x z:Int)(w:X):(Instr.field 27 (I #[Y O x,Y O z]) 0).run Tryz.prog w = .ok (Y O x) w:=kM
theorem zn0(x z:Int)(w:X):(Instr.field 27 (I #[Y O x,Y O z]) 1).run Tryz.prog w = .ok (Y O z) w:=kM
def PlcS(w:X)(l:LP)(t3:V)(W:X):Prop:=
 ∃i:Nat,t3=Y O i/\i<=l.length/\Ext w W/\∀j,j<i->wthn (ptN l j).1 0 2000=true/\wthn (ptN l j).2 0 2000=true
theorem znp{l:LP}{i:Nat}(hi:i<l.length)(h:(wthn (ptN l i).1 0 2000&&wthn (ptN l i).2 0 2000)=false):placR l=false:=by
 unfold placR
 have:(l.all fun p=>wthn p.1 0 2000&&wthn p.2 0 2000)=false:=by
  rw[List.all_eq_false];exact⟨ptN l i,zaw hi,by simp only[h];decide⟩
 rw[this,Bool.false_and]
theorem zkG{n:Int}(h:wthn n 0 2000=true):Bd 1000000 n:=by
 unfold wthn at h;simp at h;unfold Bd;omega
theorem zgh(w:X)(v:V)(l:LP)(h:IsPr w v l) :
  Calls Tryz.prog 158 #[v] w fun e w'=>e = .returned (.bool (placR l))/\Ext w w':=by
 obtain⟨a,c,rfl⟩:=h.form;obtain⟨n,hn⟩:=gX l.length;have ap:=h.le;unfold maxLen at ap;rw[hn]at ap ⊢;obtain⟨cb,ah⟩:=gX (placR l);rw[ah];have ad:=hd9 ah;have Hn:=hd9 hn;have H:=hd9 h;clear hn h ah;go_enter Tryz.func158,Tryz.ntmps158;go_wp2
 go_loopw [3] (PlcS w l) (fun t3 _=>n-(intOf t3).toNat)
 case atStart=>exact⟨0,rfl,by omega,eR _,fun j hj=>by omega⟩
 case round =>
  obtain⟨i,rfl,hi,hx,ab⟩:=hrel;rw[Hn.out]at hi;have y:=hd9 ab;have Hx:=hd9 hx;clear ab
  by_cases aq:i<n
  ·obtain⟨b,o,rfl,hb,c0,c1⟩:=(H.out.ext' hx).pt (i:=i) (by rw[Hn.out];exact aq)
   have hno:=znp (l:=l) (i:=i) (by rw[Hn.out];exact aq);have g0:(0:Int)<=(i:Int):=oM
   have g1:(i:Int)<(n:Int):=oM
   obtain⟨⟨x,z⟩,hp⟩:∃q,ptN l i=q:=⟨_,rfl⟩;rw[hp]at c0 c1 hno;dsimp only at c0 c1 hno;have Hp:=hd9 hp;have ai:=fun W=>zcK W x 0 2000
   have aj:=fun W=>zcK W z 0 2000
   obtain⟨bx,af⟩:=gX (wthn x 0 2000);obtain⟨bz,ag⟩:=gX (wthn z 0 2000);rw[af]at ai hno;rw[ag]at aj hno;have ae:=hd9 ai;have al:=hd9 aj;have ar:=hd9 af;have au:=hd9 ag;clear hp ai aj af ag
   cases bx with
   | false =>
    have e:cb=false:=by rw[<-ad.out,hno rfl]
    subst e;clear hno
    go_wp2_with(go_at_call 159;(with_reducible refine(ae.out _).mono ?_);rintro e Q ⟨rfl,d⟩;obtain⟨an,ao⟩:=d.cells)
    go_ret;exact⟨rfl,eA⟩
   | true =>
    cases bz with
    | false =>
     have e:cb=false:=by rw[<-ad.out,hno rfl]
     subst e;clear hno
     go_wp2_with(first|(go_at_call 159;(with_reducible refine(ae.out _).mono ?_);rintro e Q ⟨rfl,d⟩;obtain⟨an,ao⟩:=d.cells)|(go_at_call 159;(with_reducible refine(al.out _).mono ?_);rintro e w2 ⟨rfl,g⟩))
     go_ret;exact⟨rfl,eA⟩
    | true =>
     clear hno
     go_wp2_with(first|(go_at_call 159;(with_reducible refine(ae.out _).mono ?_);rintro e Q ⟨rfl,d⟩;obtain⟨an,ao⟩:=d.cells)|(go_at_call 159;(with_reducible refine(al.out _).mono ?_);rintro e w2 ⟨rfl,g⟩))
     go_roundw
     case rel=>exact⟨i+1,by go_num,by rw[Hn.out];omega,eA,fun j hj=>by
       by_cases av:j=i
       ·subst av;rw[Hp.out];exact⟨ar.out,au.out⟩
       ·exact y.out j oM⟩
     case measure=>simp[intOf];omega
  ·obtain rfl:i=n:=oM
   have hB:∀q∈l,Bd 1000000 q.1/\Bd 1000000 q.2:=fun q hq=>by
    obtain⟨j,hj,rfl⟩:=List.getElem_of_mem hq;have:=y.out j (by rw[<-Hn.out];exact hj);rw[zal hj]at this;exact⟨zkG this.1,zkG this.2⟩
   have hA:(l.all fun p=>wthn p.1 0 2000&&wthn p.2 0 2000)=true:=by
    rw[List.all_eq_true];intro q hq;obtain⟨j,hj,rfl⟩:=List.getElem_of_mem hq;have:=y.out j (by rw[<-Hn.out];exact hj);rw[zal hj]at this;simp[this.1,this.2]
   have T:=fun W (hW:Ext wr W)=>zi5 W _ l (H.out.ext' (hx.trans hW)) hB
   have K:=fun W (hW:Ext wr W) (aw:l≠[])=>zgZ W _ l (H.out.ext' (hx.trans hW)) aw
   have aa:=fun W (hW:Ext wr W)=>zes W _ l (H.out.ext' (hx.trans hW))
   have k:cb=(convR l&&(decide ((leastP l).1=0)&&(decide ((leastP l).2=0)&&decide (firN l l.length=0)))):=by
    rw[<-ad.out];unfold placR;rw[hA,Bool.true_and]
   have P:convR l=true->l≠[]:=fun h9 e=>by subst e;revert h9;decide
   rw[Hn.out]at T K aa k;obtain⟨cv,ac⟩:=gX (convR l);obtain⟨⟨mx,mz⟩,hm⟩:∃m,leastP l=m:=⟨_,rfl⟩;obtain⟨f,hf⟩:=gX (firN l i);rw[ac]at T k P;rw[hm]at K k;rw[hf]at aa k;dsimp only at K k;have D:=hd9 T;have s:=hd9 K;have R:=hd9 aa;have r:=hd9 k;have am:=hd9 P;have ax:=znZ;have ay:=zn0;clear ac hm hf T K aa k hB hA P
   cases cv with
   | false =>
    have e:cb=false:=by rw[r.out];rfl
    subst e
    go_wp2_with(go_at_call 202;(with_reducible refine(D.out _ (eR _)).mono ?_);rintro e Q ⟨rfl,d⟩)
    go_ret;exact⟨rfl,eA⟩
   | true =>
    have t:Hid (l≠[]):=hd9 (am.out rfl);clear am
    by_cases h1:mx=0
    ·by_cases h2:mz=0
     ·by_cases h3:f=0
      ·subst h1 h2 h3
       have e:cb=true:=by rw[r.out];rfl
       subst e
       go_wp2_with(first|(go_at_call 202;(with_reducible refine(D.out _ (eR _)).mono ?_);rintro e Q ⟨rfl,d⟩)|(go_at_call 164;(with_reducible refine(s.out w2 (d.trans g) t.out).mono ?_);rintro e w3 ⟨rfl,u⟩)|(go_at_call 164;(with_reducible refine(s.out Q d t.out).mono ?_);rintro e w2 ⟨rfl,g⟩)|(go_at_call 165;(with_reducible refine(R.out w3 (d.trans (g.trans u))).mono ?_);rintro e w4 ⟨rfl,ak⟩))
       go_ret;exact⟨rfl,eA⟩
      ·subst h1 h2
       have h4:((f:Int)==0)=false:=by simpa using h3
       have e:cb=false:=by rw[r.out];simp[h3]
       subst e;clear h3
       go_wp2_with(first|(go_at_call 202;(with_reducible refine(D.out _ (eR _)).mono ?_);rintro e Q ⟨rfl,d⟩)|(go_at_call 164;(with_reducible refine(s.out w2 (d.trans g) t.out).mono ?_);rintro e w3 ⟨rfl,u⟩)|(go_at_call 164;(with_reducible refine(s.out Q d t.out).mono ?_);rintro e w2 ⟨rfl,g⟩)|(go_at_call 165;(with_reducible refine(R.out w3 (d.trans (g.trans u))).mono ?_);rintro e w4 ⟨rfl,ak⟩))
       go_ret;exact⟨rfl,eA⟩
     ·subst h1
      have h4:(mz==0)=false:=by simpa using h2
      have e:cb=false:=by rw[r.out];simp[h2]
      subst e;clear h2
      go_wp2_with(first|(go_at_call 202;(with_reducible refine(D.out _ (eR _)).mono ?_);rintro e Q ⟨rfl,d⟩)|(go_at_call 164;(with_reducible refine(s.out w2 (d.trans g) t.out).mono ?_);rintro e w3 ⟨rfl,u⟩)|(go_at_call 164;(with_reducible refine(s.out Q d t.out).mono ?_);rintro e w2 ⟨rfl,g⟩)|(go_at_call 165;(with_reducible refine(R.out w3 (d.trans (g.trans u))).mono ?_);rintro e w4 ⟨rfl,ak⟩))
      go_ret;exact⟨rfl,eA⟩
    ·have h4:(mx==0)=false:=by simpa using h1
     have e:cb=false:=by rw[r.out];simp[h1]
     subst e;clear h1
     go_wp2_with(first|(go_at_call 202;(with_reducible refine(D.out _ (eR _)).mono ?_);rintro e Q ⟨rfl,d⟩)|(go_at_call 164;(with_reducible refine(s.out w2 (d.trans g) t.out).mono ?_);rintro e w3 ⟨rfl,u⟩)|(go_at_call 164;(with_reducible refine(s.out Q d t.out).mono ?_);rintro e w2 ⟨rfl,g⟩)|(go_at_call 165;(with_reducible refine(R.out w3 (d.trans (g.trans u))).mono ?_);rintro e w4 ⟨rfl,ak⟩))
     go_ret;exact⟨rfl,eA⟩
def NmS(w:X)(s:ByteArray)(t3:V)(W:X):Prop:=
 ∃i:Nat,t3=Y O i/\i<=s.size/\Ext w W/\∀j,j<i->oddB (bytN s j)=false
theorem zhV(w:X)(s:ByteArray)(aa:s.size<=1000000) :
  Calls Tryz.prog 157 #[.string s] w fun e w'=>e = .returned (.bool (namR s))/\Ext w w':=by
 obtain⟨n,hn⟩:=gX s.size;obtain⟨p,v⟩:=gX (namR s);rw[v];have r:=hd9 v;have P:=hd9 hn;go_enter Tryz.func157,Tryz.ntmps157;go_wp2
 go_loopw [3] (NmS w s) (fun t3 _=>n-(intOf t3).toNat)
 case atStart=>exact⟨0,rfl,by omega,eR _,fun j z=>by omega⟩
 case round =>
  obtain⟨i,rfl,hi,hx,k⟩:=hrel;have f:=hd9 k;have Hx:=hd9 hx;clear k
  by_cases W:i<n
  ·have l:i<s.size:=oM
   obtain⟨c,Q⟩:∃c:Int,((s[i].toNat:Nat):Int)=c:=⟨_,rfl⟩
   have t:bytN s i=c.toNat:=by
    unfold bytN;rw[<-Q,Int.toNat_natCast]
    congr 1
    exact getElem!_pos s.data i l
   have R:0<=c:=oM
   have u:(bytN s i:Int)=c:=by rw[t];omega
   have o:=hd9 u;clear t u
   have m:oddB c=true->p=false:=fun ho=>by
    rw[<-r.out];unfold namR
    have:(List.range s.size).all (fun i=>!oddB (bytN s i))=false:=by
     rw[List.all_eq_false];exact⟨i,List.mem_range.2 l,by rw[o.out,ho];decide⟩
    rw[this,Bool.false_and]
   have g:=hd9 m;clear m;have a:c<48->p=false:=fun h=>g.out (by unfold oddB;simp;omega)
   have b:57<c/\c<97->p=false:=fun h=>g.out (by unfold oddB;simp;omega)
   have d:122<c->p=false:=fun h=>g.out (by unfold oddB;simp;omega)
   by_cases D:c<48
   ·have e:=a D
    subst e;have x:c<97:=oM
    clear a b d;go_wp2;go_ret;exact⟨rfl,eA⟩
   by_cases x:57<c
   ·by_cases K:c<97
    ·have e:=b ⟨x,K⟩
     subst e;clear a b d;go_wp2;go_ret;exact⟨rfl,eA⟩
    ·by_cases k4:122<c
     ·have e:=d k4
      subst e;clear a b d;go_wp2;go_ret;exact⟨rfl,eA⟩
     ·have e:oddB c=false:=by unfold oddB;simp;omega
      have E:=hd9 e;clear a b d e;go_wp2
      go_roundw
      case rel=>exact⟨i+1,by go_num,by omega,eA,fun j z=>by
        by_cases q:j=i
        ·subst q;rw[o.out];exact E.out
        ·exact f.out j oM⟩
      case measure=>simp[intOf];omega
   ·have K:c<97:=oM
    have e:oddB c=false:=by unfold oddB;simp;omega
    have E:=hd9 e;clear a b d e;go_wp2
    go_roundw
    case rel=>exact⟨i+1,by go_num,by omega,eA,fun j z=>by
      by_cases q:j=i
      ·subst q;rw[o.out];exact E.out
      ·exact f.out j oM⟩
    case measure=>simp[intOf];omega
  ·have e:p=wthn n 1 16:=by
    rw[<-r.out];unfold namR;have:(List.range s.size).all (fun i=>!oddB (bytN s i))=true:=zdn (fun j z=>by rw[f.out j oM];rfl);rw[this,Bool.true_and,P.out]
   have T:i=n:=oM
   have E:=hd9 e;clear e;unfold wthn at E
   by_cases D:1<=n
   ·have x:(1:Int)<=(n:Int):=oM
    have y:p=decide ((n:Int)<=16):=by rw[E.out];simp;omega
    subst y;go_wp2;go_ret;exact⟨zbh sM,eA⟩
   ·have x:¬(1:Int)<=(n:Int):=oM
    have y:p=false:=by rw[E.out];simp;omega
    subst y;go_wp2;go_ret;exact⟨rfl,eA⟩
theorem zhX(w:X)(nm:ByteArray)(v:V)(l:LP)(d de gx gz:Int)(h:IsPr w v l)(am:nm.size<=1000000) :
  Calls Tryz.prog 89 #[I #[.string nm,v,Y O d,Y O de,Y O gx,Y O gz]] w fun e w'=>e = .returned (.bool (stoneB (namedB nm) l d de gx gz))/\Ext w w':=by
 obtain⟨a,c,rfl⟩:=h.form;obtain⟨n,hn⟩:=gX l.length;have HN:=hd9 (fun W=>zhV W nm am);have HP:=hd9 (fun W (hW:Ext w W)=>zgh W _ l (h.ext' hW));have HD:=hd9 (fun W=>zcK W d 1 2000);have HE:=hd9 (fun W=>zcK W de 1 10000);have HX:=hd9 (fun W=>zcK W gx (-100) 100);have HZ:=hd9 (fun W=>zcK W gz (-100) 100);obtain⟨cb,ak⟩:=gX (stoneB (namedB nm) l d de gx gz);rw[ak];unfold stoneB grainB at ak;rw[<-zjX,<-zoi]at ak;obtain⟨nb,e1⟩:=gX (namR nm);obtain⟨pb,e2⟩:=gX (placR l);obtain⟨bd,e3⟩:=gX (wthn d 1 2000);obtain⟨be,e4⟩:=gX (wthn de 1 10000);obtain⟨bx,e5⟩:=gX (wthn gx (-100) 100);obtain⟨bz,e6⟩:=gX (wthn gz (-100) 100);obtain⟨zx,e7⟩:=gX ((gx==0));obtain⟨zz,e8⟩:=gX ((gz==0));have e9:(gx != 0)=!zx:=by rw[<-e7];rfl
 have al:(gz != 0)=!zz:=by rw[<-e8];rfl
 rw[e1,e2,e3,e4,e5,e6,e7,e8]at ak;rw[e1]at HN;rw[hn,e2]at HP;rw[e3]at HD;rw[e4]at HE;rw[e5]at HX;rw[e6]at HZ;rw[hn];have P:=hd9 ak;clear e1 e2 e3 e4 e5 e6 e7 e8 ak h hn am
 cases nb with
 | false =>
  have e:=P.out;simp only[Bool.false_and]at e;subst e;go_enter Tryz.func89,Tryz.ntmps89
  go_wp2_with(first|(go_at_call 157;(with_reducible refine(HN.out _).mono ?_);rintro e m ⟨rfl,b⟩;obtain⟨⟨R,ae⟩,o,p⟩:=cK2 w b;(have Q:Ext w m:=eA))|(go_at_call 158;(with_reducible refine(HP.out m Q).mono ?_);rintro e w2 ⟨rfl,f⟩;obtain⟨⟨T,af⟩,q,r⟩:=cK2 w f)|(go_at_call 159;(with_reducible refine(HD.out w2).mono ?_);rintro e w3 ⟨rfl,g⟩;obtain⟨⟨aa,ag⟩,s,t⟩:=cK2 w g)|(go_at_call 159;(with_reducible refine(HE.out w3).mono ?_);rintro e w4 ⟨rfl,i⟩;obtain⟨⟨ab,ah⟩,u,x⟩:=cK2 w i)|(go_at_call 159;(with_reducible refine(HX.out w4).mono ?_);rintro e w5 ⟨rfl,j⟩;obtain⟨⟨ac,ai⟩,y,z⟩:=cK2 w j)|(go_at_call 159;(with_reducible refine(HZ.out w5).mono ?_);rintro e w6 ⟨rfl,k⟩;obtain⟨⟨ad,aj⟩,D,K⟩:=cK2 w k))
  go_ret;exact⟨rfl,eA⟩
 | true =>
 cases pb with
 | false =>
  have e:=P.out;simp only[Bool.true_and,Bool.false_and]at e;subst e;go_enter Tryz.func89,Tryz.ntmps89
  go_wp2_with(first|(go_at_call 157;(with_reducible refine(HN.out _).mono ?_);rintro e m ⟨rfl,b⟩;obtain⟨⟨R,ae⟩,o,p⟩:=cK2 w b;(have Q:Ext w m:=eA))|(go_at_call 158;(with_reducible refine(HP.out m Q).mono ?_);rintro e w2 ⟨rfl,f⟩;obtain⟨⟨T,af⟩,q,r⟩:=cK2 w f)|(go_at_call 159;(with_reducible refine(HD.out w2).mono ?_);rintro e w3 ⟨rfl,g⟩;obtain⟨⟨aa,ag⟩,s,t⟩:=cK2 w g)|(go_at_call 159;(with_reducible refine(HE.out w3).mono ?_);rintro e w4 ⟨rfl,i⟩;obtain⟨⟨ab,ah⟩,u,x⟩:=cK2 w i)|(go_at_call 159;(with_reducible refine(HX.out w4).mono ?_);rintro e w5 ⟨rfl,j⟩;obtain⟨⟨ac,ai⟩,y,z⟩:=cK2 w j)|(go_at_call 159;(with_reducible refine(HZ.out w5).mono ?_);rintro e w6 ⟨rfl,k⟩;obtain⟨⟨ad,aj⟩,D,K⟩:=cK2 w k))
  go_ret;exact⟨rfl,eA⟩
 | true =>
 cases bd with
 | false =>
  have e:=P.out;simp only[Bool.true_and,Bool.false_and]at e;subst e;go_enter Tryz.func89,Tryz.ntmps89
  go_wp2_with(first|(go_at_call 157;(with_reducible refine(HN.out _).mono ?_);rintro e m ⟨rfl,b⟩;obtain⟨⟨R,ae⟩,o,p⟩:=cK2 w b;(have Q:Ext w m:=eA))|(go_at_call 158;(with_reducible refine(HP.out m Q).mono ?_);rintro e w2 ⟨rfl,f⟩;obtain⟨⟨T,af⟩,q,r⟩:=cK2 w f)|(go_at_call 159;(with_reducible refine(HD.out w2).mono ?_);rintro e w3 ⟨rfl,g⟩;obtain⟨⟨aa,ag⟩,s,t⟩:=cK2 w g)|(go_at_call 159;(with_reducible refine(HE.out w3).mono ?_);rintro e w4 ⟨rfl,i⟩;obtain⟨⟨ab,ah⟩,u,x⟩:=cK2 w i)|(go_at_call 159;(with_reducible refine(HX.out w4).mono ?_);rintro e w5 ⟨rfl,j⟩;obtain⟨⟨ac,ai⟩,y,z⟩:=cK2 w j)|(go_at_call 159;(with_reducible refine(HZ.out w5).mono ?_);rintro e w6 ⟨rfl,k⟩;obtain⟨⟨ad,aj⟩,D,K⟩:=cK2 w k))
  go_ret;exact⟨rfl,eA⟩
 | true =>
 cases be with
 | false =>
  have e:=P.out;simp only[Bool.true_and,Bool.false_and]at e;subst e;go_enter Tryz.func89,Tryz.ntmps89
  go_wp2_with(first|(go_at_call 157;(with_reducible refine(HN.out _).mono ?_);rintro e m ⟨rfl,b⟩;obtain⟨⟨R,ae⟩,o,p⟩:=cK2 w b;(have Q:Ext w m:=eA))|(go_at_call 158;(with_reducible refine(HP.out m Q).mono ?_);rintro e w2 ⟨rfl,f⟩;obtain⟨⟨T,af⟩,q,r⟩:=cK2 w f)|(go_at_call 159;(with_reducible refine(HD.out w2).mono ?_);rintro e w3 ⟨rfl,g⟩;obtain⟨⟨aa,ag⟩,s,t⟩:=cK2 w g)|(go_at_call 159;(with_reducible refine(HE.out w3).mono ?_);rintro e w4 ⟨rfl,i⟩;obtain⟨⟨ab,ah⟩,u,x⟩:=cK2 w i)|(go_at_call 159;(with_reducible refine(HX.out w4).mono ?_);rintro e w5 ⟨rfl,j⟩;obtain⟨⟨ac,ai⟩,y,z⟩:=cK2 w j)|(go_at_call 159;(with_reducible refine(HZ.out w5).mono ?_);rintro e w6 ⟨rfl,k⟩;obtain⟨⟨ad,aj⟩,D,K⟩:=cK2 w k))
  go_ret;exact⟨rfl,eA⟩
 | true =>
 cases zx with
 | false =>
  simp only[Bool.not_false]at e9
  cases bx with
  | false =>
   have e:=P.out;simp at e;subst e;go_enter Tryz.func89,Tryz.ntmps89
   go_wp2_with(first|(go_at_call 157;(with_reducible refine(HN.out _).mono ?_);rintro e m ⟨rfl,b⟩;obtain⟨⟨R,ae⟩,o,p⟩:=cK2 w b;(have Q:Ext w m:=eA))|(go_at_call 158;(with_reducible refine(HP.out m Q).mono ?_);rintro e w2 ⟨rfl,f⟩;obtain⟨⟨T,af⟩,q,r⟩:=cK2 w f)|(go_at_call 159;(with_reducible refine(HD.out w2).mono ?_);rintro e w3 ⟨rfl,g⟩;obtain⟨⟨aa,ag⟩,s,t⟩:=cK2 w g)|(go_at_call 159;(with_reducible refine(HE.out w3).mono ?_);rintro e w4 ⟨rfl,i⟩;obtain⟨⟨ab,ah⟩,u,x⟩:=cK2 w i)|(go_at_call 159;(with_reducible refine(HX.out w4).mono ?_);rintro e w5 ⟨rfl,j⟩;obtain⟨⟨ac,ai⟩,y,z⟩:=cK2 w j)|(go_at_call 159;(with_reducible refine(HZ.out w5).mono ?_);rintro e w6 ⟨rfl,k⟩;obtain⟨⟨ad,aj⟩,D,K⟩:=cK2 w k))
   go_ret;exact⟨rfl,eA⟩
  | true =>
   have e:=P.out;simp at e;subst e;go_enter Tryz.func89,Tryz.ntmps89
   go_wp2_with(first|(go_at_call 157;(with_reducible refine(HN.out _).mono ?_);rintro e m ⟨rfl,b⟩;obtain⟨⟨R,ae⟩,o,p⟩:=cK2 w b;(have Q:Ext w m:=eA))|(go_at_call 158;(with_reducible refine(HP.out m Q).mono ?_);rintro e w2 ⟨rfl,f⟩;obtain⟨⟨T,af⟩,q,r⟩:=cK2 w f)|(go_at_call 159;(with_reducible refine(HD.out w2).mono ?_);rintro e w3 ⟨rfl,g⟩;obtain⟨⟨aa,ag⟩,s,t⟩:=cK2 w g)|(go_at_call 159;(with_reducible refine(HE.out w3).mono ?_);rintro e w4 ⟨rfl,i⟩;obtain⟨⟨ab,ah⟩,u,x⟩:=cK2 w i)|(go_at_call 159;(with_reducible refine(HX.out w4).mono ?_);rintro e w5 ⟨rfl,j⟩;obtain⟨⟨ac,ai⟩,y,z⟩:=cK2 w j)|(go_at_call 159;(with_reducible refine(HZ.out w5).mono ?_);rintro e w6 ⟨rfl,k⟩;obtain⟨⟨ad,aj⟩,D,K⟩:=cK2 w k))
   go_ret;exact⟨rfl,eA⟩
 | true =>
  simp only[Bool.not_true]at e9
  cases zz with
  | true =>
   simp only[Bool.not_true]at al;have e:=P.out;simp at e;subst e;go_enter Tryz.func89,Tryz.ntmps89
   go_wp2_with(first|(go_at_call 157;(with_reducible refine(HN.out _).mono ?_);rintro e m ⟨rfl,b⟩;obtain⟨⟨R,ae⟩,o,p⟩:=cK2 w b;(have Q:Ext w m:=eA))|(go_at_call 158;(with_reducible refine(HP.out m Q).mono ?_);rintro e w2 ⟨rfl,f⟩;obtain⟨⟨T,af⟩,q,r⟩:=cK2 w f)|(go_at_call 159;(with_reducible refine(HD.out w2).mono ?_);rintro e w3 ⟨rfl,g⟩;obtain⟨⟨aa,ag⟩,s,t⟩:=cK2 w g)|(go_at_call 159;(with_reducible refine(HE.out w3).mono ?_);rintro e w4 ⟨rfl,i⟩;obtain⟨⟨ab,ah⟩,u,x⟩:=cK2 w i)|(go_at_call 159;(with_reducible refine(HX.out w4).mono ?_);rintro e w5 ⟨rfl,j⟩;obtain⟨⟨ac,ai⟩,y,z⟩:=cK2 w j)|(go_at_call 159;(with_reducible refine(HZ.out w5).mono ?_);rintro e w6 ⟨rfl,k⟩;obtain⟨⟨ad,aj⟩,D,K⟩:=cK2 w k))
   go_ret;exact⟨rfl,eA⟩
  | false =>
   simp only[Bool.not_false]at al
   cases bx with
   | false =>
    have e:=P.out;simp at e;subst e;go_enter Tryz.func89,Tryz.ntmps89
    go_wp2_with(first|(go_at_call 157;(with_reducible refine(HN.out _).mono ?_);rintro e m ⟨rfl,b⟩;obtain⟨⟨R,ae⟩,o,p⟩:=cK2 w b;(have Q:Ext w m:=eA))|(go_at_call 158;(with_reducible refine(HP.out m Q).mono ?_);rintro e w2 ⟨rfl,f⟩;obtain⟨⟨T,af⟩,q,r⟩:=cK2 w f)|(go_at_call 159;(with_reducible refine(HD.out w2).mono ?_);rintro e w3 ⟨rfl,g⟩;obtain⟨⟨aa,ag⟩,s,t⟩:=cK2 w g)|(go_at_call 159;(with_reducible refine(HE.out w3).mono ?_);rintro e w4 ⟨rfl,i⟩;obtain⟨⟨ab,ah⟩,u,x⟩:=cK2 w i)|(go_at_call 159;(with_reducible refine(HX.out w4).mono ?_);rintro e w5 ⟨rfl,j⟩;obtain⟨⟨ac,ai⟩,y,z⟩:=cK2 w j)|(go_at_call 159;(with_reducible refine(HZ.out w5).mono ?_);rintro e w6 ⟨rfl,k⟩;obtain⟨⟨ad,aj⟩,D,K⟩:=cK2 w k))
    go_ret;exact⟨rfl,eA⟩
   | true =>
    have e:=P.out;simp at e;subst e;go_enter Tryz.func89,Tryz.ntmps89
    go_wp2_with(first|(go_at_call 157;(with_reducible refine(HN.out _).mono ?_);rintro e m ⟨rfl,b⟩;obtain⟨⟨R,ae⟩,o,p⟩:=cK2 w b;(have Q:Ext w m:=eA))|(go_at_call 158;(with_reducible refine(HP.out m Q).mono ?_);rintro e w2 ⟨rfl,f⟩;obtain⟨⟨T,af⟩,q,r⟩:=cK2 w f)|(go_at_call 159;(with_reducible refine(HD.out w2).mono ?_);rintro e w3 ⟨rfl,g⟩;obtain⟨⟨aa,ag⟩,s,t⟩:=cK2 w g)|(go_at_call 159;(with_reducible refine(HE.out w3).mono ?_);rintro e w4 ⟨rfl,i⟩;obtain⟨⟨ab,ah⟩,u,x⟩:=cK2 w i)|(go_at_call 159;(with_reducible refine(HX.out w4).mono ?_);rintro e w5 ⟨rfl,j⟩;obtain⟨⟨ac,ai⟩,y,z⟩:=cK2 w j)|(go_at_call 159;(with_reducible refine(HZ.out w5).mono ?_);rintro e w6 ⟨rfl,k⟩;obtain⟨⟨ad,aj⟩,D,K⟩:=cK2 w k))
    go_ret;exact⟨rfl,eA⟩
end
end Go.Proofs.YtjnjpagegkcgfaaGreatDoor.Cop
