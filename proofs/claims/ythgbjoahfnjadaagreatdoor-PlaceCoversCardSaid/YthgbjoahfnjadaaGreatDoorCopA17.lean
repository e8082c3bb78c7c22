import Derived.Test.YthgbjoahfnjadaaGreatDoorCopA11
import Derived.Test.YthgbjoahfnjadaaGreatDoorCopA16
set_option maxRecDepth 1000000
set_option maxHeartbeats 16000000
set_option linter.all false
open Go.Value renaming slice->O,bool->Z,int->I,agg->N,tuple->G
open Option renaming none->Y,some->F
open Go renaming World->X,Value->M
open Go.IntKind renaming i64->J
open Go.Obj renaming cells->C
namespace Go.Proofs.YthgbjoahfnjadaaGreatDoor.Cop
section
open Go.RowKit Go.Shelf Go.Sort Go.Lib
attribute [local go_sem] Oper.semAt_some
def AH{α:Type}(f:α->Rat)(xs:List α)(x:α)(h:xs≠[]):Gf f (xs++[x])=if Pb (f x) (Gf f xs)<0 then f x else Gf f xs:=by
 cases xs with
 | nil=>exact absurd rfl h
 | cons y a =>
  show (a++[x]).foldl _ (f y)=_;rw[List.foldl_append];rfl
def Rb.gapT{l t:LP}(a:Fb l)(c:Fb t):Rb 23 (jf l t):=by unfold Cop.jf Na;obtain⟨d,e⟩:=Bl (Db (Ic l t)) (Ol (Ic l t));rw[e];exact Rb.gap (Vi (gl a c) _ d) (gl a c)
def Rb.minG{α:Type}{f:α->Rat}{xs:List α}(h:∀x∈xs,Rb 23 (f x)):Rb 23 (Gf f xs):=by
 by_cases a:xs=[]
 ·subst a;exact Rb.int (n:=0) (by unfold Lm;have:=tj Yh 23;omega) dM
 ·obtain⟨⟨x,c,e⟩,_⟩:=qu f a;rw[e];exact h x c
def jI(w:X)(bx:Nat)(u x:M)(l t:LP)(hb:w.cell? ⟨bx,10,Y⟩=F u)(n:Aa w u l)(r:Aa w x t)(k1:Fb l)(k2:Fb t):Calls Tryz.prog 110 #[x,.pointer (F ⟨bx,0,Y⟩)] w (Id w (jf l t)):=by have a:=ia (fun(W:X)(f:oa w W)=>Cp W u x l t (n.i f) (r.i f) (List.length_pos_iff.2 k1.1) (List.length_pos_iff.2 k2.1));have k:=ia (fun(W:X)(f:oa w W)=>js W u x (Ic l t) (n.i f) (r.i f) (gl k1 k2));obtain⟨R,y⟩:=gX (Id w (jf l t));rw[y];have m:=ia y;have z:=World.block_lt_of_cell? _ _ hb;unfold jf at m;obtain⟨s,hs⟩:=gX (Ic l t);rw[hs]at a k m;obtain⟨a1,m1,rfl⟩:=n.form;obtain⟨a2,m2,rfl⟩:=r.form;obtain⟨n1,f1⟩:=gX l.length;obtain⟨n2,f2⟩:=gX t.length;obtain⟨lo,d⟩:=gX s.lo;obtain⟨hi,c⟩:=gX s.hi;obtain⟨o,eo⟩:=gX (Na s);unfold Ij at a;unfold Lh at a k;simp only[f1,f2,d,c,eo]at a k m hb ⊢;clear n r k1 k2 hs f1 f2 d c eo y;dsimp only at z;go_in;go_wp2_with(first|(go_at_call 82;refine cM (a.o _ eA) ?_;rintro e w3 ⟨rfl,i⟩;obtain⟨K,T⟩:=i.cells;(have z3:w.heap.size<w3.heap.size:=by have:=i.size;simp only[wZ]at this;omega);(have ac:w.heap.size<w3.heap.size+1:=oM))|(go_at_call 83;refine cM (k.o _ eA) ?_;rintro e w4 ⟨r4,r5,rfl,ab,g,j⟩;obtain⟨a4,m4,c4,s4,b4,n4,k4,rfl⟩:=ab.form;obtain⟨a5,m5,c5,s5,b5,n5,k5,rfl⟩:=g.form;obtain⟨P,aa⟩:=j.cells;(have z4:w.heap.size<w4.heap.size:=by have:=j.size;simp only[wZ]at this;omega);(have ad:w.heap.size<w4.heap.size+1:=oM)));refine bR (v:=N #[O a5 m5 c5,Z s5,O b5 n5 k5]) (by simp[results,Tryz.results110,go_sem,K,T,P,aa,z3,z4,ac,ad]) rfl ?_;rw[<-m.o];exact⟨_,rfl,g.keep kA,eA⟩
def xM(w:X)(f:LP->Rat)(ts:List LP)(g:Nat)(e d:M)(W:X):Prop:=
 ∃(i:Nat),i<=ts.length/\d=I J i/\g=ts.length-i/\(∃a n c,e=O a n c)/\oa w W/\RB W w.heap.size 0/\RB W (w.heap.size+1) (Gf f (ts.take i))
def Fm(w:X)(q:Rat)(e:Ending)(w':X):Prop:=∃a n c r,e=.returned (G #[O a n c,r])/\La w' r q/\oa w w'
def UI(w:X)(v:M)(bx:Nat)(vl:M)(l:LP)(ts:List LP)(hs:Sl 107 1 (Ii 107) w v ts)(hb:w.cell? ⟨bx,10,Y⟩=F vl)(h1:Aa w vl l)(k1:Fb l)(k2:∀t∈ts,Fb t):Calls Tryz.prog 109 #[v,.func (.func 110) #[] #[.pointer (F ⟨bx,0,Y⟩)]] w (Fm w (Gf (jf l) ts)):=by
 obtain⟨a,c,rfl⟩:=hs.form;obtain⟨n,hn⟩:=gX ts.length;rw[hn]at hs ⊢;have aF:=hs.le;unfold maxLen at aF;have Hn:=ia hn;have ae:=ia (fun t (ht:t∈ts)=>Rb.gapT k1 (k2 t ht));have aM:n<=9223372036854775807:=oM;have HG:=ia (fun(W:X)(hW:oa w W)(vt:M)(t:LP)(ht:Aa W vt t)(hm:t∈ts)=>jI W bx vl vt l t (hW.d hb) (h1.i hW) ht k1 (k2 t hm));obtain⟨R,hR⟩:=gX (Fm w (Gf (jf l) ts));rw[hR];have HR:=ia hR;obtain⟨f,hf⟩:=gX (jf l);rw[hf]at HG HR ae;clear hn aF hR hf h1 k1 k2 hb;go_in;go_wp2;go_loopg [6,13] n (xM w f ts)
 case atStart =>
  have z:∀W,La W (N #[O Y 0 0,Z false,O Y 0 0]) 0:=fun W=>La.zero _;exact⟨0,by omega,rfl,by rw[Hn.o];rfl,⟨_,_,_,rfl⟩,eA,(RB.new (z w) rfl).ext ((eR _).alloc _),RB.new (z _) sM⟩
 case round =>
  obtain⟨i,hi,rfl,rfl,⟨xa,xn,xc,rfl⟩,hx,hA,hB⟩:=hrel;rw[Hn.o]at hi;have Hx:=ia hx;have HA:=ia hA;have HB:=ia hB;by_cases aJ:i<n
  ·obtain⟨t,ai⟩:∃t,ts[i]?=F t:=⟨ts[i]'(by rw[Hn.o];omega),by simp[Hn.o,aJ]⟩;obtain⟨b,o,d,rfl,aK,aL,⟨vt,rfl,al⟩,hc⟩:=Sl.at (Sl.ext hs (fun _ _ h=>by obtain⟨v,e,h⟩:=h;exact⟨v,e,h.i hx⟩) hx) ai;have e0:=hc 0 _ rfl;rw[Nat.mul_one,Nat.add_zero]at e0;obtain⟨ta,tn,tc,rfl⟩:=Ia al;have Hm:=ia (lM ai);have ak:=ia al;have ar:=ia ai;have aH:=ia (ae.o t Hm.o);have zB:w.heap.size+1<wr.heap.size:=by obtain⟨_,_,_,_,_,_,_,_,_,_,_,_,_,z,_⟩:=hB.rd;exact z
   obtain⟨d1,dm,dc,ds,d2,aB,ax,au,av,aw,ay,az,aA,zD,aj⟩:=hB.rd;clear ai hA hB hx al hc;by_cases h0:i=0
   ·(have aI:((i:Int)==0)=true:=by simp<;>omega);have H0:=ia h0;clear h0;go_wp2_with((go_at_call 110;refine cM (HG.o _ Hx.o (O ta tn tc) t ak.o Hm.o) ?_;rintro e w1 ⟨r1,rfl,m,j⟩;obtain⟨b1,n1,k1,t1,b2,n2,k2,rfl⟩:=m.form;obtain⟨ag,ah⟩:=j.cells;(have z1:w.heap.size+1<w1.heap.size:=by have:=j.size;omega)));have E:zc (Gf f (ts.take (i+1))=f t):=ia (by
     have:=H0.o;subst this;rw[Xf _ _ _ ar.o];simp[Gf])
    have g:oa wr (w1.alloc (C #[O b1 n1 k1,Z t1,O b2 n2 k2] 43)):=j.alloc _;obtain⟨W8,ab⟩:=gX ((w1.alloc (C #[O b1 n1 k1,Z t1,O b2 n2 k2] 43)));(have g1:RB W8 w1.heap.size (f t):=by rw[<-ab];exact RB.new m rfl);rw[ab]at g ⊢;have g2:=HB.o.ext g;have zW:=g.size;obtain⟨s1,af⟩:=gX w1.heap.size;simp only[af]at *;have zs:w.heap.size+1<s1:=z1;clear ab ag ah m j aj au av aw ay az aA af e0;obtain⟨pa,pm,s,ps,r,y,u,p0,p1,p2,_,_,_,pz,hp⟩:=(g1).rd;obtain⟨_,_,_,_,_,_,_,x0,x1,x2,am,an,ao,xz,_⟩:=(g2).rd;refine Ke [(⟨s1,0,Y⟩,O pa pm s),(⟨s1,1,Y⟩,Z ps),(⟨s1,2,Y⟩,O r y u)] cA fun T=>?_;refine sN 0 ?_
    (iterate 3 refine Fc ?_);refine oN ?_;have aa:∀q∈[((⟨s1,0,Y⟩:Addr),Value.slice pa pm s),(⟨s1,1,Y⟩,Z ps),(⟨s1,2,Y⟩,O r y u)],w.heap.size+1≠q.1.block:=by
     simp<;>omega
    refine Je (i:=3) fun K hK=>?_;go_simp;refine kO hK (Ca.set3d T aa _ _ _) (fun T=>?_);clear hK K;refine Wd ?_;have ad:=ia g;have P:=ia (RB.put3 g2 hp rfl);clear g g1 g2;go_wp2;go_roundg (n-(i+1))
    case measure=>have:=Hn.o;omega
    case rel =>
     obtain⟨P1,P2,P3,P4,P5⟩:=P.o;have D:=fun W=>(eR W).drew;exact⟨i+1,by rw[Hn.o];omega,by go_num,by rw[Hn.o],⟨_,_,_,rfl⟩,(P5 w (Hx.o.trans ad.o) oM).drew,
      (P2 _ _ oM (HA.o.ext ad.o)).ext (D _),by rw[E.o];exact P1.ext (D _)⟩
   ·(have aI:((i:Int)==0)=false:=by simp<;>omega);have aG:ts.take i≠[]:=fun h=>by
     (have h2:(ts.take i).length=0:=by rw[h];rfl);rw[List.length_take,Hn.o]at h2;omega
    have e9:Gf f (ts.take (i+1))=if Pb (f t) (Gf f (ts.take i))<0 then f t else Gf f (ts.take i):=by
     rw[Xf _ _ _ ar.o,AH _ _ _ aG]
    have ap:=ia (od aH.o oM);have aq:=ia (od (Rb.minG (f:=f) (xs:=ts.take i) fun x hx=>ae.o x (List.mem_of_mem_take hx)) oM);obtain⟨k,hk⟩:=gX (Pb (f t) (Gf f (ts.take i)));rw[hk]at e9;have Hk:=ia hk;clear h0 aG hk;by_cases aE:k<0
    ·rw[if_pos aE]at e9;have E:=ia e9;clear e9;go_wp2_with(first|(go_at_call 110;refine cM (HG.o _ Hx.o (O ta tn tc) t ak.o Hm.o) ?_;rintro e w1 ⟨r1,rfl,m,j⟩;obtain⟨b1,n1,k1,t1,b2,n2,k2,rfl⟩:=m.form;obtain⟨ag,ah⟩:=j.cells;(have z1:w.heap.size+1<w1.heap.size:=by have:=j.size;omega))|(go_at_call 21;(with_reducible refine(Mi _ (N #[O b1 n1 k1,Z t1,O b2 n2 k2]) (N #[O d1 dm dc,Z ds,O d2 aB ax]) _ _ (m.ext ?_) (aj.ext ?_) ap.o aq.o).mono ?_);exact eA;exact eA;rintro e w3 ⟨rfl,ac⟩;(try rw[Hk.o]);obtain⟨aC,aD⟩:=ac.cells));have g:oa wr (w3):=(j.alloc _).trans ac;obtain⟨W8,ab⟩:=gX ((w3));(have g1:RB W8 w1.heap.size (f t):=by rw[<-ab];exact(RB.new m rfl).ext ac);rw[ab]at g ⊢;have g2:=HB.o.ext g;have zW:=g.size;obtain⟨s1,af⟩:=gX w1.heap.size;simp only[af]at *;have zs:w.heap.size+1<s1:=z1;clear ab ag ah m j aj au av aw ay az aA af e0 ac aC aD;obtain⟨pa,pm,s,ps,r,y,u,p0,p1,p2,_,_,_,pz,hp⟩:=(g1).rd;obtain⟨_,_,_,_,_,_,_,x0,x1,x2,am,an,ao,xz,_⟩:=(g2).rd;refine Ke [(⟨s1,0,Y⟩,O pa pm s),(⟨s1,1,Y⟩,Z ps),(⟨s1,2,Y⟩,O r y u)] cA fun T=>?_;refine sN 0 ?_
     (iterate 3 refine Fc ?_);refine oN ?_;have aa:∀q∈[((⟨s1,0,Y⟩:Addr),Value.slice pa pm s),(⟨s1,1,Y⟩,Z ps),(⟨s1,2,Y⟩,O r y u)],w.heap.size+1≠q.1.block:=by
      simp<;>omega
     refine Je (i:=3) fun K hK=>?_;go_simp;refine kO hK (Ca.set3d T aa _ _ _) (fun T=>?_);clear hK K;refine Wd ?_;have ad:=ia g;have P:=ia (RB.put3 g2 hp rfl);clear g g1 g2;go_wp2;go_roundg (n-(i+1))
     case measure=>have:=Hn.o;omega
     case rel =>
      obtain⟨P1,P2,P3,P4,P5⟩:=P.o;have D:=fun W=>(eR W).drew;exact⟨i+1,by rw[Hn.o];omega,by go_num,by rw[Hn.o],⟨_,_,_,rfl⟩,(P5 w (Hx.o.trans ad.o) oM).drew,
       (P2 _ _ oM (HA.o.ext ad.o)).ext (D _),by rw[E.o];exact P1.ext (D _)⟩
    ·rw[if_neg aE]at e9;have E:=ia e9;clear e9;go_wp2_with(first|(go_at_call 110;refine cM (HG.o _ Hx.o (O ta tn tc) t ak.o Hm.o) ?_;rintro e w1 ⟨r1,rfl,m,j⟩;obtain⟨b1,n1,k1,t1,b2,n2,k2,rfl⟩:=m.form;obtain⟨ag,ah⟩:=j.cells;(have z1:w.heap.size+1<w1.heap.size:=by have:=j.size;omega))|(go_at_call 21;(with_reducible refine(Mi _ (N #[O b1 n1 k1,Z t1,O b2 n2 k2]) (N #[O d1 dm dc,Z ds,O d2 aB ax]) _ _ (m.ext ?_) (aj.ext ?_) ap.o aq.o).mono ?_);exact eA;exact eA;rintro e w3 ⟨rfl,ac⟩;(try rw[Hk.o]);obtain⟨aC,aD⟩:=ac.cells));have g:oa wr w3:=(j.alloc _).trans ac;go_roundg (n-(i+1))
     case measure=>have:=Hn.o;omega
     case rel=>exact⟨i+1,by rw[Hn.o];omega,by go_num,by rw[Hn.o],⟨_,_,_,rfl⟩,Hx.o.trans g,HA.o.ext g,by rw[E.o];exact HB.o.ext g⟩
  ·obtain rfl:i=n:=oM;have e:ts.take i=ts:=lT (by rw[Hn.o];exact nE _);rw[e]at hB HB;clear e;have zW:=hx.size;have zD:w.heap.size+1<wr.heap.size:=by obtain⟨_,_,_,_,_,_,_,_,_,_,_,_,_,z,_⟩:=hB.rd;exact z
   go_wp2;obtain⟨pa,pm,s,ps,r,y,u,p0,p1,p2,_,_,_,pz,hp⟩:=(hB).rd;obtain⟨_,_,_,_,_,_,_,x0,x1,x2,am,an,ao,xz,_⟩:=(hA).rd;refine Ke [(⟨w.heap.size+1,0,Y⟩,O pa pm s),(⟨w.heap.size+1,1,Y⟩,Z ps),(⟨w.heap.size+1,2,Y⟩,O r y u)] cA fun T=>?_;refine sN 0 ?_
   iterate 3 refine Fc ?_
   refine oN ?_;have aa:∀q∈[((⟨w.heap.size+1,0,Y⟩:Addr),Value.slice pa pm s),(⟨w.heap.size+1,1,Y⟩,Z ps),(⟨w.heap.size+1,2,Y⟩,O r y u)],w.heap.size≠q.1.block:=by
    simp<;>omega
   refine Je (i:=3) fun K hK=>?_;go_simp;refine kO hK (Ca.set3d T aa _ _ _) (fun T=>?_);clear hK K;refine Wd ?_;have P:=ia (RB.put3 hA hp rfl);go_wp2;refine bR (v:=G #[O xa xn xc,N #[O pa pm s,Z ps,O r y u]]) (by simp[results,Tryz.results109,go_sem,x0,x1,x2,am,an,ao]) rfl ?_;rw[<-HR.o];obtain⟨P1,P2,P3,P4,P5⟩:=P.o;exact⟨_,_,_,_,rfl,(hp.keep P3).ext (eR _).drew,(P5 w Hx.o oM).drew⟩
end
section
open Go.RowKit Go.Shelf Go.Sort
def vh(T:Rat->Rat)(a c:Rat):Prop:=∃α β:Rat,∀x,a<=x->x<=c->T x=α+β*x
def vh.sub{T:Rat->Rat}{a c v0 d:Rat}(h:vh T a c)(e:a<=v0)(f:d<=c):vh T v0 d:=by obtain⟨α,β,h⟩:=h;exact⟨α,β,fun x g i=>h x (Rat.le_trans e g) (Rat.le_trans i f)⟩
def vh.of{T:Rat->Rat}{a c:Rat}(k:a<c)(h:∀x,a<=x->x<=c->(c-a)*T x=(c-x)*T a+(x-a)*T c):vh T a c:=by
 have d:c-a≠0:=fun e=>by grind
 obtain⟨β,l⟩:∃β:Rat,β*(c-a)=T c-T a:=⟨(T c-T a)/(c-a),Rat.div_mul_cancel d⟩;refine⟨T a-β*a,β,fun x g i=>?_⟩;have e:=h x g i;have j:(c-a)*T x=(c-a)*(T a-β*a+β*x):=by
  rw[e];grind
 have f:(c-a)*(T x-(T a-β*a+β*x))=0:=by grind
 rcases Rat.mul_eq_zero.1 f with z|z
 ·exact absurd z d
 ·grind
def FE{A B x w0 a:Rat}(d:w0<=x)(e:x<=a)(h:0<A+B*x):0<A+B*w0\/0<A+B*a:=by
 by_cases c:0<=B
 ·have:=Rat.mul_nonneg c (show 0<=a-x by grind)
  right
  grind
 ·have:=Rat.mul_nonneg (show 0 <= -B by grind) (show 0<=x-w0 by grind)
  left
  grind
def vh.le{S T:Rat->Rat}{c d x:Rat}(e:vh S c d)(f:vh T c d)(g:c<=x)(i:x<=d)(j:S c<=T c)(k:S d<=T d):S x<=T x:=by obtain⟨α,β,e⟩:=e;obtain⟨γ,δ,f⟩:=f;have a:=Rat.le_trans g i;rw[e c Rat.le_refl a,f c Rat.le_refl a]at j;rw[e d a Rat.le_refl,f d a Rat.le_refl]at k;rw[e x g i,f x g i];refine Rat.not_lt.1 fun h=>?_;rcases FE (A:=α-γ) (B:=β-δ) g i (by grind)with z|z<;>grind
def vh.max{S T:Rat->Rat}{c d x:Rat}(g:vh S c d)(i:vh T c d)(j:c<=x)(k:x<=d)(h:S x<T x):S c<T c\/S d<T d:=by apply Classical.byContradiction;intro f;have a:T c<=S c:=Rat.not_lt.1 fun e=>f (.inl e);have b:T d<=S d:=Rat.not_lt.1 fun e=>f (.inr e);have:=vh.le i g j k a b;grind
def Fw(x y:Rat):Za (-1) [x,y]<=x/\Za (-1) [x,y]<=y/\(Za (-1) [x,y]=x\/Za (-1) [x,y]=y):=by
 show Qb (-1) x y<=x/\Qb (-1) x y<=y/\(Qb (-1) x y=x\/Qb (-1) x y=y);unfold Qb;by_cases c:Pb y x = -1
 ·have:=(Mq _ _).1 c;rw[if_pos c];exact⟨Rat.le_of_lt this,Rat.le_refl,.inr rfl⟩
 ·rw[if_neg c];exact⟨Rat.le_refl,Rat.not_lt.1 fun h=>c ((Mq _ _).2 h),.inl rfl⟩
def Jw(x y:Rat):x<=Za 1 [x,y]/\y<=Za 1 [x,y]/\(Za 1 [x,y]=x\/Za 1 [x,y]=y):=by
 show x<=Qb 1 x y/\y<=Qb 1 x y/\(Qb 1 x y=x\/Qb 1 x y=y);unfold Qb;by_cases c:Pb y x=1
 ·have:=(Lq _ _).1 c;rw[if_pos c];exact⟨Rat.le_of_lt this,Rat.le_refl,.inr rfl⟩
 ·rw[if_neg c];exact⟨Rat.le_refl,Rat.not_lt.1 fun h=>c ((Lq _ _).2 h),.inl rfl⟩
def Ve(p q:Pl):Sp:=⟨za p++Ra p,za q++Ra q,max (Ka (za p)) (Ka (za q)),min (Ma (za p)) (Ma (za q))⟩
def Rc(f:Rat->Rat)(y x:Rat):List Rat:=if (f y).num.sign*(f x).num.sign<0 then [Sf f y x]else []
def tg(a b:LP)(x:Rat):Rat:=Sb a x-Sb b x
def Ym(p q:Pl)(x:Rat):Rat:=Za (-1) [Sb (Ra p) x,Sb (Ra q) x]
def Bn(p q:Pl)(x:Rat):Rat:=Za 1 [Sb (za p) x,Sb (za q) x]
section
variable {p q:Pl} (hp:Ea p=true) (hq:Ea q=true) (ho:(Ve p q).lo<(Ve p q).hi)
include hp hq ho
end
def DF{p q:Pl}(hp:Ea p=true)(hq:Ea q=true)(e:Ee p q≠5)(ho:(Ve p q).lo<(Ve p q).hi){x:Rat}(R:(((Ve p q).lo:Int):Rat)<=x)(T:x<=(((Ve p q).hi:Int):Rat)):Ym p q x<=Bn p q x:=by
 obtain⟨a1,a2,a3,v,w⟩:=xk hp;obtain⟨b1,b2,b3,y,z⟩:=xk hq;have u:=ho;unfold Ve at u;dsimp only at u;have n:∀{L U:LP},Bb L->Bb U->L≠[]->U≠[]->(Ic L U).lo=(Ve p q).lo->(Ic L U).hi=(Ve p q).hi->Fd L U=true->Sb U x<=Sb L x:=by
  intro L U rL rU nL nU l m c;have d:(Ic L U).lo<(Ic L U).hi:=by rw[l,m];exact ho
  unfold Fd at c;rw[if_pos d,decide_eq_true_eq]at c;have r:=Vw c;obtain⟨i,a,b,f,k,x0,x1⟩:=CD d (x:=x) (by rw[l];exact R) (by rw[m];exact T);obtain⟨j,_⟩:=BA d f k;have s:(a:Rat)<(b:Rat):=Rat.intCast_lt_intCast.2 j;have g:=ZK rL rU nL nU d f k x0 x1;have K:=Rat.le_trans r (iu (Db (Ic L U)) _ (show (a:Rat)∈Jb (Ic L U)from List.mem_map_of_mem (lM f)));have P:=Rat.le_trans r (iu (Db (Ic L U)) _ (show (b:Rat)∈Jb (Ic L U)from List.mem_map_of_mem (lM k)));have m1:=Rat.mul_nonneg (show 0<=(b:Rat)-x by grind) K;have m2:=Rat.mul_nonneg (show 0<=x-(a:Rat) by grind) P;have o:0<=Db (Ic L U) x:=by
   refine Rat.not_lt.1 fun t=>?_;have:=Rat.mul_pos (show 0<(b:Rat)-(a:Rat) by grind) (show 0 < -Db (Ic L U) x by grind);grind
  unfold Db Ic at o;dsimp only at o;grind
 have a:=Jw (Sb (za p) x) (Sb (za q) x);have b:=Fw (Sb (Ra p) x) (Sb (Ra q) x);have c:Fd (za p) (Ra q)=true\/Fd (za q) (Ra p)=true:=by
  unfold Ee at e;cases f1:Fd (za p) (Ra q)with
  | true=>exact .inl rfl
  |false=>
   cases f2:Fd (za q) (Ra p)with
   | true=>exact .inr rfl
   |false=>
    rw[f1,f2]at e;rw[if_neg oM,if_neg oM]at e;exact absurd rfl e
 unfold Ym Bn;rcases c with c|c
 ·have:=n (lk hp).1 (vk hq).1 v z (by unfold Ic Ve;dsimp only;omega) (by unfold Ic Ve;dsimp only;omega) c;grind
 ·have:=n (lk hq).1 (vk hp).1 y w (by unfold Ic Ve;dsimp only;omega) (by unfold Ic Ve;dsimp only;omega) c;grind
def TK{g:LP}(h:ub g=true):Bb g:=by
 unfold ub at h;rw[Bool.and_eq_true,List.all_eq_true]at h;obtain⟨o,k⟩:=h;have f:∀i,(hi:i+1<g.length)->g[i].1<g[i+1].1:=fun i hi=>by
  have a:=k (i+1) (List.mem_range.2 hi);unfold Qf at a;rw[Nat.add_sub_cancel,gD,gE hi,Option.getD_some,gD,gE oM,Option.getD_some]at a;simp only[Bool.and_eq_true,Bool.or_eq_true,beq_iff_eq,decide_eq_true_eq]at a;rcases a.2.2 with c|c
  ·omega
  ·exact c
 unfold Bb;rw[List.pairwise_iff_getElem];intro i j hi m l;obtain⟨d,rfl⟩:∃d,j=i+d+1:=⟨j-i-1,by omega⟩;induction d with
 | zero=>exact f i m
 | succ d n =>
  have:=n oM oM;have:=f (i+d+1) oM;show g[i].1<g[i+(d+1)+1].1;have e:i+(d+1)+1=i+d+1+1:=oM;simp only[e];omega
def Fv{l:LP}(j:Bb l)(w:Fb l)(x:Ka l<Ma l){z:Int}(h1:Ka l<=z)(h2:z<=Ma l):((-104000:Int):Rat)<=Sb l (z:Rat)/\Sb l (z:Rat)<=((104000:Int):Rat):=by
 obtain⟨T,e,_⟩:=w;obtain⟨k,P,R,k3,k4⟩:∃k,Ka l<=k/\k<Ma l/\k<=z/\z<=k+1:=by
  by_cases c:z=Ma l
  ·exact⟨z-1,by omega,by omega,by omega,by omega⟩
  ·exact⟨z,by omega,by omega,by omega,by omega⟩
 obtain⟨⟨a,b⟩,f,r,t,_⟩:=Vq T P R;obtain⟨g,i,d,_⟩:=j.between f;dsimp only at r t g i d;have u:=e a g;have v:=e b i;unfold Bd at u v;have q1:((a.1:Int):Rat)<=(z:Rat):=Rat.intCast_le_intCast.2 oM;have q2:(z:Rat)<=((b.1:Int):Rat):=Rat.intCast_le_intCast.2 oM;rw[Yk j f q1 q2];have s:=fC (a,b) (a.1:Rat) (b.1:Rat) (z:Rat);rw[iy,Wz a b d]at s;have m:(0:Rat)<((b.1:Int):Rat)-((a.1:Int):Rat):=by
  have:=Rat.intCast_lt_intCast.2 d;grind
 obtain⟨y,K⟩:=gX (Ug (z:Rat) (a,b));rw[K]at s ⊢;have u1:((-104000:Int):Rat)<=((a.2:Int):Rat):=Rat.intCast_le_intCast.2 oM;have u2:((a.2:Int):Rat)<=((104000:Int):Rat):=Rat.intCast_le_intCast.2 oM;have u3:((-104000:Int):Rat)<=((b.2:Int):Rat):=Rat.intCast_le_intCast.2 oM;have u4:((b.2:Int):Rat)<=((104000:Int):Rat):=Rat.intCast_le_intCast.2 oM;have n:0<=((b.1:Int):Rat)-(z:Rat):=by grind
 have o:0<=(z:Rat)-((a.1:Int):Rat):=by grind
 have v1:=Rat.mul_le_mul_of_nonneg_left u1 n;have v2:=Rat.mul_le_mul_of_nonneg_left u2 n;have v3:=Rat.mul_le_mul_of_nonneg_left u3 o;have v4:=Rat.mul_le_mul_of_nonneg_left u4 o;refine⟨Rat.not_lt.1 fun h=>?_,Rat.not_lt.1 fun h=>?_⟩
 ·have:=Rat.mul_lt_mul_of_pos_left h m;grind
 ·have:=Rat.mul_lt_mul_of_pos_left h m;grind
def xx{l t:LP}(m:Bb l)(n:Bb t)(g:Fb l)(j:Fb t)(ho:(Ic l t).lo<(Ic l t).hi):jf l t<=((208000:Int):Rat):=by
 unfold jf Na;obtain⟨i,f⟩:=Bl (Db (Ic l t)) (Ol (Ic l t));obtain⟨z,k,e⟩:=List.mem_map.1 i;have c:=Tm ho k;rw[f,<-e];unfold Ic at ho c;dsimp only at ho c;have a:=Fv m g oM (z:=z) oM oM;have b:=Fv n j oM (z:=z) oM oM;unfold Db Ic;dsimp only;have d:((208000:Int):Rat)=((104000:Int):Rat)-((-104000:Int):Rat):=by rw[<-Rat.intCast_sub];rfl
 rw[d];grind
def VD{g:LP}{ps:List Pl}{p:Pl}(i:pb g ps=0)(hp:Ea p=true)(k:fe g p=true)(j:kd g ps p=true):0<=Bf g ps p/\0<=Cf g ps p/\Cf g ps p<=208000:=by
 obtain⟨c,_,m⟩:=Ui i;obtain⟨⟨t,f,e⟩,_⟩:=qu (jf (za p)) (l:=Cd g ps p) (by unfold Cd;simp);have r:=Rz i hp k j t f;have s:jf (za p) t<=((208000:Int):Rat):=by
  unfold Cd at f;rcases List.mem_cons.1 f with n|f
  ·rw[n];exact xx (lk hp).1 (TK m) (rj hp).1 (pp m) (IB i hp k j)
  ·obtain⟨o,ho,rfl⟩:=List.mem_map.1 f;obtain⟨a,d⟩:=List.mem_filter.1 ho;rw[Bool.and_eq_true,beq_iff_eq]at d;exact xx (lk hp).1 (vk (c o a)).1 (rj hp).1 (rj (c o a)).2 (Ez hp (c o a) d.2).1
 refine⟨by unfold Bf;rw[e];exact r,TD i hp k j,?_⟩;have u:=Rat.floor_le (Bf g ps p);have v:((Cf g ps p:Int):Rat)<=((208000:Int):Rat):=Rat.le_trans u (by unfold Bf;rw[e];exact s);exact Rat.intCast_le_intCast.1 v
end
section
open Go.RowKit Go.Shelf Go.Sort Go.Lib
def Jk:Pl:=ib ⟨#[97]⟩ 0 0
def Ik:Pl:=ib ⟨#[98]⟩ 200 0
def zm:Pl:=ib ⟨#[99]⟩ 100 80
def ll:Pl:=ib ⟨#[100]⟩ 50 300
def Mo:za Jk=[(0,0),(0+200,0)]:=by unfold Jk za Gc;rw[show Dc (Ba (ib ⟨#[97]⟩ 0 0)) (Ba (ib ⟨#[97]⟩ 0 0)).length=[(0,0),(0+200,0)] by decide,Rl (List.Perm.refl _) dM dM];decide
def Jq:Ra Jk=[(0,0+80),(0+200,0+80)]:=by unfold Jk Ra Gc;rw[show Ad (Ba (ib ⟨#[97]⟩ 0 0)) (Ba (ib ⟨#[97]⟩ 0 0)).length=[(0+200,0+80),(0,0+80)] by decide,Rl (List.Perm.swap _ _ _) dM dM];decide
def NC:Ea Jk=true:=by decide +kernel
def Lo:za Ik=[(200,0),(200+200,0)]:=by unfold Ik za Gc;rw[show Dc (Ba (ib ⟨#[98]⟩ 200 0)) (Ba (ib ⟨#[98]⟩ 200 0)).length=[(200,0),(200+200,0)] by decide,Rl (List.Perm.refl _) dM dM];decide
def Iq:Ra Ik=[(200,0+80),(200+200,0+80)]:=by unfold Ik Ra Gc;rw[show Ad (Ba (ib ⟨#[98]⟩ 200 0)) (Ba (ib ⟨#[98]⟩ 200 0)).length=[(200+200,0+80),(200,0+80)] by decide,Rl (List.Perm.swap _ _ _) dM dM];decide
def MC:Ea Ik=true:=by decide +kernel
def Rq:za zm=[(100,80),(100+200,80)]:=by unfold zm za Gc;rw[show Dc (Ba (ib ⟨#[99]⟩ 100 80)) (Ba (ib ⟨#[99]⟩ 100 80)).length=[(100,80),(100+200,80)] by decide,Rl (List.Perm.refl _) dM dM];decide
def Cq:Ra zm=[(100,80+80),(100+200,80+80)]:=by unfold zm Ra Gc;rw[show Ad (Ba (ib ⟨#[99]⟩ 100 80)) (Ba (ib ⟨#[99]⟩ 100 80)).length=[(100+200,80+80),(100,80+80)] by decide,Rl (List.Perm.swap _ _ _) dM dM];decide
def Lw:za ll=[(50,300),(50+200,300)]:=by unfold ll za Gc;rw[show Dc (Ba (ib ⟨#[100]⟩ 50 300)) (Ba (ib ⟨#[100]⟩ 50 300)).length=[(50,300),(50+200,300)] by decide,Rl (List.Perm.refl _) dM dM];decide
def fw:Ra ll=[(50,300+80),(50+200,300+80)]:=by unfold ll Ra Gc;rw[show Ad (Ba (ib ⟨#[100]⟩ 50 300)) (Ba (ib ⟨#[100]⟩ 50 300)).length=[(50+200,300+80),(50,300+80)] by decide,Rl (List.Perm.swap _ _ _) dM dM];decide
def LC:Ea ll=true:=by decide +kernel
def ID:Ee Jk Ik=1:=by unfold Ee;rw[Mo,Lo];decide
def Ni:List Pl:=[Jk,Ik,zm]
def No:pb Cj Ni=0:=by unfold Ni pb;simp only[Ed,Ie,Cg,kd,Tf,List.any_cons,List.any_nil,List.nil_append,List.cons_append,Ee,Fd,Na,Jb,Qa,Qr,fe,Mo,Lo,Rq,Jq,Iq,Cq];decide +kernel
def UD:Cf Cj Ni ll=140:=by unfold Cf Bf Cd Ni;simp only[List.filter,List.map_cons,List.map_nil,Gf,List.foldl_cons,List.foldl_nil,jf,Ee,Fd,Na,Jb,Qa,Qr,Mo,Lo,Rq,Lw,Jq,Iq,Cq,fw];decide +kernel
instance:DecidableEq Be:=fun⟨a,b,c,d,e,f,g⟩ ⟨a',b',c',d',e',f',g'⟩=>decidable_of_iff (a=a'/\b=b'/\c=c'/\d=d'/\e=e'/\f=f'/\g=g') sM
def iE:Tg Cj Ni 2 zm 0 4=[⟨0,100,80,200,80,(1,0),(1,0)⟩,⟨1,200,80,300,80,(1,0),(1,0)⟩]:=by unfold Tg Ni;simp only[oh,gh,Jc,Ud,Na,Jb,Qa,Qr,Mo,Lo,Rq,Jq,Iq,Cq];decide +kernel
def WE:vj 100 80=[40,49,48,48,44,32,56,48,41]:=by decide +kernel
end
section
def FG(x:Rat):(x.floor:Rat)<=x/\x<((x.floor+1:Int):Rat):=by exact⟨Rat.floor_le x,Rat.lt_floor_add_one x⟩
def OD{p:Pl}(h:Ea p=true){x:Rat}(j:(Ka (za p):Rat)<=x)(l:x<=(Ma (za p):Rat)):Sb (za p) x<=Sb (Ra p) x:=by
 obtain⟨t,u,v,n,o⟩:=xk h;obtain⟨c,e⟩:=FG x;have f:Ka (za p)<=x.floor:=Rat.le_floor_iff.2 j;by_cases m:x=(x.floor:Rat)
 ·rw[m];exact ot h f (Rat.intCast_le_intCast.1 (Rat.le_trans c l))
 ·have g:x.floor+1<=Ma (za p):=by
   have:(x.floor:Rat)<(Ma (za p):Rat):=by grind
   have:=Rat.intCast_lt_intCast.1 this;omega
  have r:=Js (lk h).1 n (a:=x.floor) (b:=x.floor+1) oM f g (fun q _=>by omega) c (Rat.le_of_lt e);have s:=Js (vk h).1 o (a:=x.floor) (b:=x.floor+1) oM oM oM (fun q _=>by omega) c (Rat.le_of_lt e);have w:=ot h f oM;have i:=ot h (k:=x.floor+1) oM g;have d:((x.floor+1:Int):Rat)=(x.floor:Rat)+1:=by rw[Rat.intCast_add];rfl
  rw[d]at r s e i;have y:=Rat.mul_nonneg (a:=(x.floor:Rat)+1-x) (b:=Sb (Ra p) (x.floor:Rat)-Sb (za p) (x.floor:Rat)) (by grind) (by grind);have z:=Rat.mul_nonneg (a:=x-(x.floor:Rat)) (b:=Sb (Ra p) ((x.floor:Rat)+1)-Sb (za p) ((x.floor:Rat)+1)) (by grind) (by grind);grind
def Eh(s:Int)(ps:List Pl):List Pl:=ps.filter fun p=>p.skin==s || p.skin==3
def kH{g:LP}{ps:List Pl}(c:pb g ps=0):ps.Pairwise fun a b=>jd b a=true->Ee b a≠5:=by
 have k:Ie g [] ps=0:=by
  unfold pb at c;split at c
  ·split at c
   ·cases c
   ·split at c
    ·exact c
    ·rename_i h9;exact absurd c h9
  ·cases c
 refine List.pairwise_iff_getElem.2 fun i j hi f m n l=>?_;have e:=LB k j (ps[j]'f) (gE f);unfold kd at e;simp only[List.nil_append,Bool.and_eq_true,Bool.not_eq_true',List.any_eq_false]at e;have d:ps[i]∈ps.take j:=List.mem_take_iff_getElem.2 ⟨i,by omega,rfl⟩;have:=e.2 _ d;unfold Tf at this;rw[n,l]at this;simp at this
def YF{g:LP}{ps:List Pl}(n:pb g ps=0)(s:Int):mj ((Eh s ps).map fun p=>(za p,Ra p)):=by
 have d:=(Ui n).1;have c:∀q∈(Eh s ps).map (fun p=>(za p,Ra p)),∃p,Ea p=true/\q=(za p,Ra p):=fun q hq=>by
  obtain⟨p,hp,rfl⟩:=List.mem_map.1 hq;exact⟨p,d p (List.mem_filter.1 hp).1,rfl⟩
 refine⟨fun q hq=>?_,fun q hq=>?_,fun q hq x R T=>?_,?_⟩
 ·obtain⟨p,f,rfl⟩:=c q hq;exact⟨(lk f).1,(vk f).1⟩
 ·obtain⟨p,f,rfl⟩:=c q hq;obtain⟨K,P,-,n1,n2⟩:=xk f;exact⟨K,P,n1,n2⟩
 ·obtain⟨p,f,rfl⟩:=c q hq;exact OD f R T
 ·rw[List.pairwise_map];refine((kH n).filter _).imp_of_mem fun {a b} k l hr o1 o2 x t u v w=>?_;obtain⟨k,sa⟩:=List.mem_filter.1 k;obtain⟨l,sb⟩:=List.mem_filter.1 l;have hm:jd b a=true:=by
   unfold jd;simp only[Bool.or_eq_true,beq_iff_eq]at sa sb ⊢;omega
  have o:=d a k;have r:=d b l;obtain⟨-,-,la,-,-⟩:=xk o;obtain⟨-,-,lb,-,-⟩:=xk r;have aa:Ka (za a)<Ma (za b):=Rat.intCast_lt_intCast.1 o1;have ab:Ka (za b)<Ma (za a):=Rat.intCast_lt_intCast.1 o2;have m:(Ve b a).lo<(Ve b a).hi:=by unfold Ve;dsimp only;omega
  have y:(((Ve b a).lo:Int):Rat)<=x:=by
   unfold Ve;dsimp only;rcases Int.le_total (Ka (za b)) (Ka (za a))with q|q
   ·rw[Int.max_eq_right q];exact t
   ·rw[Int.max_eq_left q];exact v
  have z:x<=(((Ve b a).hi:Int):Rat):=by
   unfold Ve;dsimp only;rcases Int.le_total (Ma (za b)) (Ma (za a))with q|q
   ·rw[Int.min_eq_left q];exact w
   ·rw[Int.min_eq_right q];exact u
  have e:=DF r o (hr hm) m y z;unfold Ym Bn at e;obtain⟨-,-,i⟩:=Fw (Sb (Ra b) x) (Sb (Ra a) x);obtain⟨-,-,j⟩:=Jw (Sb (za b) x) (Sb (za a) x);rcases i with i|i<;>rcases j with j|j<;>rw[i,j]at e
  ·exact .inr (.inr (.inr e))
  ·exact .inr (.inl e)
  ·exact .inl e
  ·exact .inr (.inr (.inl e))
end
section
open Go.RowKit Go.Shelf Go.Sort Go.Lib
attribute [local go_sem] Oper.semAt_some
def ro(w:X)(g:ByteArray)(x z:Int):Calls Tryz.prog 28 #[.string g,I J x,I J z] w fun e i=>∃v,e=.returned (N (pe (ib g x z) v))/\Aa i v Pe/\oa w i:=by go_in;go_wp2_with(go_at_call 84;(with_reducible refine(uJ _).mono ?_);rintro e j ⟨s,rfl,a,c⟩;obtain⟨k,m,l,rfl⟩:=Ia a;obtain⟨d,f⟩:=c.cells;(have r:=c.size);(simp only[wZ]at r);(have n:w.heap.size<j.heap.size:=oM);(have o:¬w.heap.size=j.heap.size:=oM));refine bR (v:=N (pe (ib g x z) (O k m l))) (by simp[results,Tryz.results28,go_sem,pe,ib,d,f,n,o]) rfl ⟨_,rfl,?_,eA⟩;exact a.G kA
def GG(w:X):Calls Tryz.prog 33 #[] w fun e a=>∃v,e=.returned v/\Aa a v Cj/\oa w a:=by go_in;go_wp2;go_ret;exact⟨_,rfl,Sw _ rfl Cj dM,eA⟩
def Tz(w:X):Calls Tryz.prog 30 #[] w fun e w'=>∃vg vp,e=.returned (N #[vg,vp])/\Aa w' vg Cj/\td w' vp Ni/\oa w w':=by
 go_in;go_wp2_with(first|(go_at_call 33;(with_reducible refine(GG _).mono ?_);rintro e w1 ⟨v1,rfl,n,i⟩;obtain⟨l,t,m,rfl⟩:=Ia n;obtain⟨z,T⟩:=i.cells;(have z1:w.heap.size<w1.heap.size:=by have:=i.size;simp only[wZ]at this;omega))|(go_at_call 28;(with_reducible refine(ro _ ⟨#[97]⟩ 0 0).mono ?_);rintro e w2 ⟨v2,rfl,o,f⟩;obtain⟨a2,n2,c2,rfl⟩:=Ia o;obtain⟨K,aa⟩:=f.cells;(have z2:w.heap.size<w2.heap.size:=by have:=f.size;omega);(unfold pe ib);dsimp only)|(go_at_call 28;(with_reducible refine(ro _ ⟨#[98]⟩ 200 0).mono ?_);rintro e w3 ⟨v3,rfl,r,d⟩;obtain⟨a3,n3,c3,rfl⟩:=Ia r;obtain⟨P,ab⟩:=d.cells;(have z3:w.heap.size<w3.heap.size:=by have:=d.size;omega);(unfold pe ib);dsimp only)|(go_at_call 28;(with_reducible refine(ro _ ⟨#[99]⟩ 100 80).mono ?_);rintro e g ⟨v4,rfl,s,a⟩;obtain⟨a4,n4,c4,rfl⟩:=Ia s;obtain⟨R,ac⟩:=a.cells;(have z4:w.heap.size<g.heap.size:=by have:=a.size;omega);(unfold pe ib);dsimp only));have K1:=i.e (aN w (C #[O Y 0 0,O Y 0 0] 35));have x:=a.e (d.e (f.e K1));obtain⟨j,c⟩:=gX ((g.setCell ⟨w.heap.size,0,Y⟩ (O l t m)).setCell ⟨w.heap.size,1,Y⟩ (O (F ⟨g.heap.size,0,Y⟩) 3 3));have u:Fa 55 g j:=by
  rw[<-c];have h1:=(Fa.refl 55 g).set (p:=⟨w.heap.size,0,Y⟩) x dM (O l t m);exact h1.set (p:=⟨w.heap.size,1,Y⟩) (Bk x 0 _) dM _
 have hz:j.heap.size=g.heap.size:=by rw[<-c];simp only[sf]
 have y:j.heap[w.heap.size]?=F (C #[O l t m,O (F ⟨g.heap.size,0,Y⟩) 3 3] 35 (0,0)):=by
  rw[<-c];exact Bk (Bk x 0 _) 1 _
 have hX:oa w j:=by
  rw[<-c];exact(oa.set (oa.set (((((eR w).alloc _).trans i).trans f).trans d |>.trans a) (nE _) _) (nE _) _)
 rw[c];clear c z T K aa P ab R ac;have b0:=ja y 0 (O l t m);have b1:=ja y 1 (O (F ⟨g.heap.size,0,Y⟩) 3 3);have bz:=jc y;have hq:=rH j (k:=g.heap.size) (base:=w.heap.size) hz.symm oM [(ib ⟨#[97]⟩ 0 0,O a2 n2 c2),(ib ⟨#[98]⟩ 200 0,O a3 n3 c3),(ib ⟨#[99]⟩ 100 80,O a4 n4 c4)] (by
  intro q hq;simp only[List.mem_cons,List.not_mem_nil,or_false]at hq;rcases hq with rfl|rfl|rfl
  ·exact⟨((o.i d).i a).G u,by unfold ib;dsimp only;omega⟩
  ·exact⟨(r.i a).G u,by unfold ib;dsimp only;omega⟩
  ·exact⟨s.G u,by unfold ib;dsimp only;omega⟩) sM
 refine bR (v:=N #[O l t m,O (F ⟨g.heap.size,0,Y⟩) 3 3]) (by simp[results,Tryz.results30,go_sem,b0,b1,bz]) rfl ⟨_,_,rfl,?_,?_,hX.alloc _⟩
 ·exact((((n.i f).i d).i a).G u).i ((eR _).alloc _)
 ·exact hq.pls
end
section
open Go.RowKit Go.Shelf Go.Sort Go.Lib
def Rb.atEG{k:Nat}(m:1<=k){x:Rat}{e:Md}(n:Rb k x)(h:Bd 104000 e.1.1/\Bd 104000 e.1.2/\Bd 104000 e.2.1/\Bd 104000 e.2.2):Rb (4*k+7) (Cop.Ug x e):=by
 obtain⟨j,l,o,r⟩:=h;have g:Bd 208000 (e.2.2-e.1.2):=by unfold Bd at *;omega
 have i:Bd 208000 (e.2.1-e.1.1):=by unfold Bd at *;omega
 unfold Cop.Ug;have a:=Rb.sub n ((me j).mono (k:=k) m);have c:=Rb.mul a (me g);have d:=Rb.div c (me i) oM;have f:=(me l).mono (k:=2*k+1+1+1) oM;exact(Rb.add f d).up oM
def Rb.atG{k:Nat}(a:1<=k){x:Rat}{ps:LP}(d:Rb k x)(h:Fb ps):Rb (4*k+7) (Cop.Sb ps x):=by
 unfold Cop.Sb;cases hf:(yb ps).find? (Jh x)with
 | some e=>exact d.atEG a (pl h.2.1 (List.mem_of_find?_eq_some hf))
 |none=>
  have f:0<ps.length:=List.length_pos_iff.2 h.1;have c:ps.getD (ps.length-1) (0,0)∈ps:=by
   rw[gD,gE oM,Option.getD_some];exact List.getElem_mem _
  exact(me (h.2.1 _ c).2).mono oM
def Fz(q:Rat):Pb q q=0:=by have a:¬Pb q q<0:=fun h=>Rat.lt_irrefl ((xl q q).1 h);have c:¬0<Pb q q:=fun h=>Rat.lt_irrefl ((Nq q q).1 h);omega
def ZE{q:Rat}(h:0<=q):¬q.num.sign<0:=by have:0<=q.num:=Rat.num_nonneg.2 h;intro a;have:=Int.sign_neg_iff.1 a;omega
end
section
open Go.RowKit Go.Shelf Go.Sort Go.Lib
attribute [local go_sem] Oper.semAt_some
def nh(g:LP)(ps:List Pl)(p:Pl):Int:=
 if pb g ps≠0 then pb g ps else if Ea p=false then 2 else if fe g p=false then 2 else if ps.any (qg p.name)=true then 7 else if kd g ps p=false then 12 else 0
def Gm(w:X)(g:LP)(ps:List Pl)(p:Pl)(e:Ending)(w':X):Prop:=
 e=.returned (G #[I J (if nh g ps p=0 then Cf g ps p else 0),I J (nh g ps p)])/\oa w w'
def QC{w:X}{c d:M}{g:LP}{ps:List Pl}(l:Aa w c g)(hp:td w d ps)(a:Gw w)(h:pb g ps≠0):Calls Tryz.prog 43 #[N #[c,d]] w fun e f=>e=.returned (G #[N #[O Y 0 0,O Y 0 0],I J (pb g ps)])/\oa w f:=by
 refine(Ku w c d g ps l hp a).mono ?_;rintro e f (⟨_,j,k⟩|⟨i,_⟩)
 ·exact⟨j,k⟩
 ·exact absurd i h
def Et{w:X}{d i:M}{g:LP}{ps:List Pl}(r:Aa w d g)(hp:td w i ps)(f:Gw w)(h:pb g ps=0):Calls Tryz.prog 43 #[N #[d,i]] w fun e j=>∃a n c,e=.returned (G #[N #[d,O a n c],I J 0])/\Ub j (O a n c) ps/\oa w j:=by
 refine(Ku w d i g ps r hp f).mono ?_;rintro e j (⟨l,_⟩|⟨_,s,m,k,o⟩)
 ·exact absurd h l
 ·obtain⟨a,n,c,rfl⟩:=Ia k;exact⟨a,n,c,m,k,o⟩
end
section
open Go.RowKit Go.Shelf Go.Lib
attribute [local go_sem] Oper.semAt_some
def RH(w:X)(va:M)(q:Rat)(n:La w va q)(hb:Rb 100000 q):Calls Tryz.prog 96 #[va] w (Id w (q/2)):=by
 obtain⟨xa,xm,xc,xs,j,m,l,rfl⟩:=n.form;have HO:=ia (fun(W:X)=>Kq W 2 oM oM);have R:=ia (fun(W:X)(hW:oa w W)(vb:M)(h2:La W vb ((2:Int):Rat))=>ou W _ vb q ((2:Int):Rat) (n.ext hW) h2 (od hb dM) (od (me (k:=1000) (by unfold Bd;omega)) dM));have e2:q/((2:Int):Rat)=q/2:=sM;rw[e2]at R;clear n hb e2;go_in;go_wp2;refine Ke [(⟨w.heap.size,0,Y⟩,O xa xm xc),(⟨w.heap.size,1,Y⟩,Z xs),(⟨w.heap.size,2,Y⟩,O j m l)] cA fun a=>?_;refine Ac (i:=0) ?_;refine Ec (i:=1) (HO.o _) ?_;rintro e w3 ⟨r3,rfl,d,g⟩;obtain⟨a3,m3,c3,s3,b3,n3,k3,rfl⟩:=d.form;refine⟨_,rfl,(cE a g),fun a=>?_⟩;have T:oa w w3:=eA;refine Ec (i:=2) (R.o _ T _ d) ?_;rintro e w5 ⟨r5,rfl,f,c⟩;obtain⟨a5,m5,c5,s5,b5,n5,k5,rfl⟩:=f.form;refine⟨_,rfl,(cE a c),fun a=>?_⟩;have hO:RB w5 (w.heap.size+1) 0:=((RB.new (La.zero _) sM).ext ((eR _).drew.trans g)).ext c;obtain⟨_,_,_,_,_,_,_,o0,o1,o2,aa,ab,ac,zo,_⟩:=hO.rd;have o:∀q∈[((⟨w.heap.size,0,Y⟩:Addr),Value.slice xa xm xc),(⟨w.heap.size,1,Y⟩,Z xs),(⟨w.heap.size,2,Y⟩,O j m l)],w.heap.size+1≠q.1.block:=by
  simp<;>omega
 refine Je (i:=3) fun K hK=>?_;go_simp;refine kO hK (Ca.set3 (by assumption) o _ _ _) (fun a=>?_);clear hK K;refine Wd ?_;go_wp2;have hP:=hO.put f;obtain⟨pa,pm,t,x,r,u,s,y,z,P,_,_,_,_,hz⟩:=hP.rd;exact bR (v:=N #[O pa pm t,Z x,O r u s]) (by simp[results,Tryz.results96,go_sem,y,z,P]) rfl ⟨_,rfl,hz,(((T.trans c).set dO _).set dO _).set dO _⟩
def Im(w:X)(l:List Rat)(e:Ending)(w':X):Prop:=∃r,e=.returned (G #[r,Z (!l.isEmpty)])/\La w' r (l.headD 0)/\oa w w'
def gL(w:X)(v1 v2 vf vt:M)(a b:LP)(y x:Rat)(h1:Aa w v1 a)(h2:Aa w v2 b)(k1:Fb a)(k2:Fb b)(hy:La w vf y)(hx:La w vt x)(ak:Rb 300 y)(aj:Rb 300 x):Calls Tryz.prog 89 #[v1,v2,vf,vt] w (Im w (Rc (tg a b) y x)):=by
 have fy:∀{l:LP}{z:Rat},Fb l->Rb 300 z->Rb 1207 (Sb l z):=fun hl hz=>(Rb.atG (k:=300) dM hz hl).up dM;have dy:Rb 2415 (tg a b y):=(Rb.sub (k:=1207) (fy k1 ak) (fy k2 ak)).up dM;have dx:Rb 2415 (tg a b x):=(Rb.sub (k:=1207) (fy k1 aj) (fy k2 aj)).up dM;have H1:=ia (fun(W:X)(hW:oa w W)=>tl W _ _ a y (h1.i hW) k1 (hy.ext hW) (ak.up dM));have H2:=ia (fun(W:X)(hW:oa w W)=>tl W _ _ b y (h2.i hW) k2 (hy.ext hW) (ak.up dM));have H3:=ia (fun(W:X)(hW:oa w W)=>tl W _ _ a x (h1.i hW) k1 (hx.ext hW) (aj.up dM));have H4:=ia (fun(W:X)(hW:oa w W)=>tl W _ _ b x (h2.i hW) k2 (hx.ext hW) (aj.up dM));have aC:=ia (fun(W:X)(va vb:M)(q1:La W va (Sb a y))(q2:La W vb (Sb b y))=>(show Calls Tryz.prog 52 #[va,vb] W (Id W (tg a b y))from Ak W va vb _ _ q1 q2 (od (fy k1 ak) dM) (od (fy k2 ak) dM)));have aD:=ia (fun(W:X)(va vb:M)(q1:La W va (Sb a x))(q2:La W vb (Sb b x))=>(show Calls Tryz.prog 52 #[va,vb] W (Id W (tg a b x))from Ak W va vb _ _ q1 q2 (od (fy k1 aj) dM) (od (fy k2 aj) dM)));have dd:Rb 4831 (tg a b y-tg a b x):=(Rb.sub (k:=2415) dy dx).up dM;have dq:Rb 7246 (tg a b y/(tg a b y-tg a b x)):=(Rb.div (j:=2415) (k:=4831) dy dd oM).up dM;have dt:Rb 601 (x-y):=(Rb.sub (k:=300) aj ak).up dM;have dm:Rb 7847 (tg a b y/(tg a b y-tg a b x)*(x-y)):=(Rb.mul (j:=7246) (k:=601) dq dt).up dM;have HY:=ia (fun(W:X)(hW:oa w W)=>hy.ext hW);have HX:=ia (fun(W:X)(hW:oa w W)=>hx.ext hW);have HD:=ia (And.intro (And.intro dy dx) (And.intro dd (And.intro dq (And.intro dt dm))));have aU:=ia (And.intro ak aj);obtain⟨a1,n1,m1,rfl⟩:=Ia h1;obtain⟨a2,n2,m2,rfl⟩:=Ia h2;obtain⟨ya,ym,yc,ys,ar,av,au,rfl⟩:=hy.form;obtain⟨xa,xm,xc,xs,ao,aq,ap,rfl⟩:=hx.form;obtain⟨R,hR⟩:=gX (Im w (Rc (tg a b) y x));rw[hR];have HR:=ia hR;unfold Rc Sf at HR;obtain⟨d,hd⟩:=gX (tg a b y);obtain⟨e,he⟩:=gX (tg a b x);rw[hd,he]at HR HD;rw[hd]at aC;rw[he]at aD;obtain⟨z1,bv⟩:=gX (Sb a y);obtain⟨z2,bw⟩:=gX (Sb b y);obtain⟨z3,bx⟩:=gX (Sb a x);obtain⟨z4,bz⟩:=gX (Sb b x);rw[bv]at H1 aC;rw[bw]at H2 aC;rw[bx]at H3 aD;rw[bz]at H4 aD;clear fy dy dx dd dq dt dm hR hd he bv bw bx bz h1 h2 k1 k2 ak aj hy hx;go_in;go_wp2;have C0:Ca [(⟨w.heap.size,0,Y⟩,O ya ym yc),(⟨w.heap.size,1,Y⟩,Z ys),(⟨w.heap.size,2,Y⟩,O ar av au),(⟨w.heap.size+1,0,Y⟩,O xa xm xc),(⟨w.heap.size+1,1,Y⟩,Z xs),(⟨w.heap.size+1,2,Y⟩,O ao aq ap)] (((w.alloc (C #[O ya ym yc,Z ys,O ar av au] 43)).alloc (C #[O xa xm xc,Z xs,O ao aq ap] 43)).alloc (C #[O Y 0 0,Z false,O Y 0 0] 43)):=by refine⟨?_,?_,?_,?_,?_,?_,trivial⟩<;>go_simp
 obtain⟨W1,aF⟩:=gX ((((w.alloc (C #[O ya ym yc,Z ys,O ar av au] 43)).alloc (C #[O xa xm xc,Z xs,O ao aq ap] 43)).alloc (C #[O Y 0 0,Z false,O Y 0 0] 43)));rw[aF]at C0;have C1:Ca [(⟨w.heap.size,0,Y⟩,O ya ym yc),(⟨w.heap.size,1,Y⟩,Z ys),(⟨w.heap.size,2,Y⟩,O ar av au),(⟨w.heap.size+1,0,Y⟩,O xa xm xc),(⟨w.heap.size+1,1,Y⟩,Z xs),(⟨w.heap.size+1,2,Y⟩,O ao aq ap)] W1.drew:=cE C0 (eR _).drew;have X1:oa w W1:=by rw[<-aF];exact(((eR w).alloc _).alloc _).alloc _
 have K1:W1.heap[w.heap.size+1+1]?=F (C #[O Y 0 0,Z false,O Y 0 0] 43 (0,0)):=by
  rw[<-aF];exact Kc _ _ _ sM
 have b3:=jc K1;rw[aF];clear aF;refine Cs [(14,10,C #[O Y 0 0,Z false,O Y 0 0] 43 (0,0)),(15,11,C #[O Y 0 0,Z false,O Y 0 0] 43 (0,0))] _ 16 4 (fun i=>decide (15<i)) (fun _=>false) kM kM kM sM kM (by intro x hx;simp only[List.mem_cons,List.not_mem_nil,or_false]at hx;rcases hx with rfl|rfl<;>exact⟨_,rfl,rfl,fun a W=>by go_simp⟩) (fun _ _ d _ _ h=>by cases d<;>exact h) C1 (fun f=>?_);refine pg (i:=0) ?_;refine pg (i:=1) ?_;refine pg (i:=3) ?_;refine pg (i:=4) ?_;refine pg (i:=7) ?_;refine pg (i:=8) ?_;refine pg (i:=10) ?_;refine pg (i:=11) ?_;refine li (i:=2) fun W2 aG bk ag K hK=>?_;go_simp;refine cM (H1.o _ (X1.drew.trans aG)) ?_;rintro e w2 ⟨r2,rfl,a0,am⟩;obtain⟨b4,b8,b6,ca,b5,b9,b7,rfl⟩:=a0.form;go_wp2;refine kO hK (.of bk am) (fun _ _=>?_);clear hK K ag;have X2:oa w w2:=(X1.drew.trans aG).trans am;refine li (i:=5) fun W5 aw bl ag K hK=>?_;go_simp;refine cM (H2.o _ (X2.trans aw)) ?_;rintro e w5 ⟨r5,rfl,az,an⟩;obtain⟨cb,cf,cd,ch,cc,cg,ce,rfl⟩:=az.form;go_wp2;refine kO hK (.of bl an) (fun _ _=>?_);clear hK K ag;have X5:oa w w5:=(X2.trans aw).trans an;refine li (i:=6) fun W6 ax bm ag K hK=>?_;go_simp;refine cM (aC.o _ _ _ ((a0.ext (aw.trans an)).ext ax) (az.ext ax)) ?_;rintro e w6 ⟨r6,rfl,aA,aB⟩;obtain⟨n,t,r,P,o,u,s,rfl⟩:=aA.form;go_wp2;refine kO hK (.of bm aB) (fun _ _=>?_);clear hK K ag;have X6:oa w w6:=(X5.trans ax).trans aB;refine li (i:=9) fun W9 ay bn ag K hK=>?_;go_simp;refine cM (H3.o _ (X6.trans ay)) ?_;rintro e w9 ⟨r9,rfl,a3,aP⟩;obtain⟨ci,cm,ck,co,cj,cn,cl,rfl⟩:=a3.form;go_wp2;refine kO hK (.of bn aP) (fun _ _=>?_);clear hK K ag;have X9:oa w w9:=(X6.trans ay).trans aP;refine li (i:=12) fun cx ah aY ag K hK=>?_;go_simp;refine cM (H4.o _ (X9.trans ah)) ?_;rintro e b0 ⟨cz,rfl,aH,al⟩;obtain⟨cp,cu,cr,cw,cq,cv,ct,rfl⟩:=aH.form;go_wp2;refine kO hK (.of aY al) (fun _ _=>?_);clear hK K ag;have bN:oa w b0:=(X9.trans ah).trans al;refine li (i:=13) fun cy ai aZ ag K hK=>?_;go_simp;refine cM (aD.o _ _ _ ((a3.ext (ah.trans al)).ext ai) (aH.ext ai)) ?_;rintro e cC ⟨cB,rfl,aI,aJ⟩;obtain⟨T,ad,ab,af,aa,ae,ac,rfl⟩:=aI.form;go_wp2;refine kO hK (.of aZ aJ) (fun _ _=>?_);clear hK K ag;refine df kM (fun V aX aM=>?_);intro g q5 y5 _ _ m q6 y6 aQ _;have aQ:m≠g:=by simpa using aQ
 have hd:=(((aA.ext (ay.trans aP)).ext (ah.trans al)).ext (ai.trans aJ)).ext aX;have he:=aI.ext aX;have YV:oa W1 V:=(eR W1).drew.trans aM;have kf:=Vb q5;have kg:=Vb q6;have g0:=ja q5 0 (O Y 0 0);have g1:=ja q5 1 (Z false);have g2:=ja q5 2 (O Y 0 0);have g3:=ja q6 0 (O Y 0 0);have g4:=ja q6 1 (Z false);have g5:=ja q6 2 (O Y 0 0);clear aG aw ax ay ah ai aX am an aB aP al aJ a0 az aA a3 aH aI X2 X5 X6 X9 bN H1 H2 H3 H4 aC aD;refine Je (i:=16) fun K hK=>?_;go_simp;refine kO hK (cE f (by(repeat refine oa.set ?_ (by first|exact y5|exact y6) _);exact aM)) (fun bj=>?_);clear hK K;refine Je (i:=17) fun K hK=>?_;go_simp;refine kO hK (cE f (by(repeat refine oa.set ?_ (by first|exact y5|exact y6) _);exact aM)) (fun bj=>?_);clear hK K;refine Wd ?_;clear g0 g1 g2 g3 g4 g5 kf kg bj;obtain⟨W7,aW⟩:=gX (Xg (Xg V g 0 [O n t r,Z P,O o u s]) m 0 [O T ad ab,Z af,O aa ae ac]);have e7:(((((V.setCell ⟨g,0,Y⟩ (O n t r)).setCell ⟨g,1,Y⟩ (Z P)).setCell ⟨g,2,Y⟩ (O o u s)).setCell ⟨m,0,Y⟩ (O T ad ab)).setCell ⟨m,1,Y⟩ (Z af)).setCell ⟨m,2,Y⟩ (O aa ae ac)=W7:=aW;rw[e7];have TB:=Lr (cs:=[O Y 0 0,Z false,O Y 0 0]) (ds:=[O Y 0 0,Z false,O Y 0 0]) [O n t r,Z P,O o u s] [O T ad ab,Z af,O aa ae ac] q5 q6 aQ rfl rfl;rw[aW]at TB;obtain⟨aK,aL,tb,tk,te⟩:=TB;simp only[Tb]at y5 y6;have KR:=(tb (w.heap.size+1+1) oM oM).trans (YV.e K1);have CX:Ca [(⟨w.heap.size,0,Y⟩,O ya ym yc),(⟨w.heap.size,1,Y⟩,Z ys),(⟨w.heap.size,2,Y⟩,O ar av au),(⟨w.heap.size+1,0,Y⟩,O xa xm xc),(⟨w.heap.size+1,1,Y⟩,Z xs),(⟨w.heap.size+1,2,Y⟩,O ao aq ap)] V:=cE C0 YV;have X7:=te w (X1.trans YV) (nT X1.size y5) (nT X1.size y6);have ki:=tk 2 dM dM;have bo:=hd.keep ki;have bp:=he.keep ki;have bi:=te W1 YV y5 y6;have C7:=cE C0 bi;have C2:Ca [(⟨g,0,Y⟩,O n t r),(⟨g,1,Y⟩,Z P),(⟨g,2,Y⟩,O o u s),(⟨m,0,Y⟩,O T ad ab),(⟨m,1,Y⟩,Z af),(⟨m,2,Y⟩,O aa ae ac)] W7:=⟨Gb aK (i:=0) rfl,Gb aK (i:=1) rfl,Gb aK (i:=2) rfl,Gb aL (i:=0) rfl,Gb aL (i:=1) rfl,Gb aL (i:=2) rfl,trivial⟩;have bg:RB W7 (w.heap.size+1+1) 0:=⟨_,_,_,_,_,_,_,KR,La.zero _⟩;have cD:w.heap.size+1+1<g/\w.heap.size+1+1<m:=oM;obtain⟨sd,a4⟩:=gX d.num.sign;obtain⟨se,a5⟩:=gX e.num.sign;have aS:=ia (fun(W:X)(v:M)(h:La W v d)=>a4▸Xl W v d h);have aT:=ia (fun(W:X)(v:M)(h:La W v e)=>a5▸Xl W v e h);have b1:=ks d;have b2:=ks e;rw[a4]at b1 HR;rw[a5]at b2 HR;have qw:IntKind.i64.wrap (sd*se)=sd*se:=by
  have h1:sd = -1\/sd=0\/sd=1:=oM;have h2:se = -1\/se=0\/se=1:=oM;rcases h1 with rfl|rfl|rfl<;>rcases h2 with rfl|rfl|rfl<;>decide
 have aV:=ia bo;have bh:=ia bp;have aR:=ia bg;have aE:=ia X7;have bL:=ia C7;have bK:=ia C2;clear a4 a5 b1 b2 aW e7 tb tk te ki hd he q5 q6 y5 y6 aQ aM YV f C1 CX aK aL KR bg bi X1 b3 K1 C0 C7 bo bp X7;go_upto_region 2 with fail;refine Ke [(⟨g,0,Y⟩,O n t r),(⟨g,1,Y⟩,Z P),(⟨g,2,Y⟩,O o u s),(⟨m,0,Y⟩,O T ad ab),(⟨m,1,Y⟩,Z af),(⟨m,2,Y⟩,O aa ae ac)] C2 fun f=>?_;refine Ac (i:=0) ?_;refine Ac (i:=2) ?_;refine Ec (i:=1) (aS.o _ _ (aV.o.ext (eR W7).drew)) ?_;rintro e w1 ⟨rfl,aO⟩;refine⟨_,rfl,(cE f aO),fun f=>?_⟩;have Xa:oa W7 w1:=(eR W7).drew.trans aO;refine Ec (i:=3) (aT.o _ _ (bh.o.ext Xa)) ?_;rintro e w2 ⟨rfl,am⟩;refine⟨_,rfl,(cE f am),fun f=>?_⟩;have Xb:oa W7 w2:=Xa.trans am;by_cases c:sd*se<0
 ·rw[if_pos c]at HR;have c1:decide (0<=sd*se)=false:=by simp<;>omega
  refine sN 4 ?_
  iterate 2 refine Fc ?_
  refine oN ?_;refine Wd ?_;have C4:Ca [(⟨w.heap.size,0,Y⟩,O ya ym yc),(⟨w.heap.size,1,Y⟩,Z ys),(⟨w.heap.size,2,Y⟩,O ar av au),(⟨w.heap.size+1,0,Y⟩,O xa xm xc),(⟨w.heap.size+1,1,Y⟩,Z xs),(⟨w.heap.size+1,2,Y⟩,O ao aq ap),(⟨g,0,Y⟩,O n t r),(⟨g,1,Y⟩,Z P),(⟨g,2,Y⟩,O o u s),(⟨m,0,Y⟩,O T ad ab),(⟨m,1,Y⟩,Z af),(⟨m,2,Y⟩,O aa ae ac)] w2:=by
   obtain⟨bO,bP,bQ,bT,bU,bV,-⟩:=cE bL.o Xb;exact⟨bO,bP,bQ,bT,bU,bV,cE bK.o Xb⟩
  have bM:=ia Xb;have HO:=ia (aR.o.ext Xb);obtain⟨⟨bc,bA⟩,bB,bC,bD,bE⟩:=HD.o;have bF:=ia (fun(W:X)(hW:oa w2 W)=>Ak W _ _ d e (aV.o.ext (Xb.trans hW)) (bh.o.ext (Xb.trans hW)) (od bc dM) (od bA dM));have bG:=ia (fun(W:X)(hW:oa w2 W)(vb:M)(h:La W vb (d-e))=>ou W _ vb d (d-e) (aV.o.ext (Xb.trans hW)) h (od bc dM) (od bB dM));have bH:=ia (fun(W:X)(hW:oa w2 W)=>Ak W _ _ x y (HX.o W (aE.o.trans (Xb.trans hW))) (HY.o W (aE.o.trans (Xb.trans hW))) (od aU.o.2 dM) (od aU.o.1 dM));have bI:=ia (fun(W:X)(va vb:M)(h:La W va (d/(d-e)))(h2:La W vb (x-y))=>rr W va vb _ _ h h2 (od bC dM) (od bD dM));have bJ:=ia (fun(W:X)(hW:oa w2 W)(vb:M)(h:La W vb (d/(d-e)*(x-y)))=>Tl W _ vb y _ (HY.o W (aE.o.trans (Xb.trans hW))) h (od aU.o.1 dM) (od bE dM));clear f aO am Xa Xb aS aT qw c c1 bc bA bB bC bD bE;go_upto_region 4 with fail;refine Ke [(⟨w.heap.size,0,Y⟩,O ya ym yc),(⟨w.heap.size,1,Y⟩,Z ys),(⟨w.heap.size,2,Y⟩,O ar av au),(⟨w.heap.size+1,0,Y⟩,O xa xm xc),(⟨w.heap.size+1,1,Y⟩,Z xs),(⟨w.heap.size+1,2,Y⟩,O ao aq ap),(⟨g,0,Y⟩,O n t r),(⟨g,1,Y⟩,Z P),(⟨g,2,Y⟩,O o u s),(⟨m,0,Y⟩,O T ad ab),(⟨m,1,Y⟩,Z af),(⟨m,2,Y⟩,O aa ae ac)] C4 fun f=>?_;refine Ac (i:=0) ?_;refine Ac (i:=1) ?_;refine Ac (i:=2) ?_;refine Ac (i:=3) ?_;refine Ac (i:=6) ?_;refine Ac (i:=7) ?_;refine Ec (i:=4) (bF.o _ (eR w2).drew) ?_;rintro e w3 ⟨r3,rfl,bq,bt⟩;obtain⟨u1,u2,u3,u4,u5,u6,u7,rfl⟩:=bq.form;refine⟨_,rfl,(cE f bt),fun f=>?_⟩;have X3:oa w2 w3:=(eR w2).drew.trans bt;refine Ec (i:=5) (bG.o _ X3 _ bq) ?_;rintro e w4 ⟨r4,rfl,br,a6⟩;obtain⟨t1,t2,t3,t4,t5,t6,t7,rfl⟩:=br.form;refine⟨_,rfl,(cE f a6),fun f=>?_⟩;refine Ec (i:=8) (bH.o _ (X3.trans a6)) ?_;rintro e w5 ⟨r5,rfl,az,an⟩;obtain⟨s1,s2,s3,s4,s5,s6,s7,rfl⟩:=az.form;refine⟨_,rfl,(cE f an),fun f=>?_⟩;refine Ec (i:=9) (bI.o _ _ _ (br.ext an) az) ?_;rintro e w6 ⟨r6,rfl,aA,aB⟩;obtain⟨q1,q2,q3,q4,q5,q6,q7,rfl⟩:=aA.form;refine⟨_,rfl,(cE f aB),fun f=>?_⟩;have X6:oa w2 w6:=((X3.trans a6).trans an).trans aB;refine Ec (i:=10) (bJ.o _ X6 _ aA) ?_;rintro e w7 ⟨r7,rfl,bs,bu⟩;obtain⟨p1,p2,p3,p4,p5,p6,p7,rfl⟩:=bs.form;refine⟨_,rfl,(cE f bu),fun f=>?_⟩;have X7:oa w2 w7:=X6.trans bu;have hO:=HO.o.ext X7;obtain⟨_,_,_,_,_,_,_,o0,o1,o2,bX,bY,bZ,zo,_⟩:=hO.rd;have bW:∀q∈[((⟨w.heap.size,0,Y⟩:Addr),(O ya ym yc:M)),(⟨w.heap.size,1,Y⟩,Z ys),(⟨w.heap.size,2,Y⟩,O ar av au),(⟨w.heap.size+1,0,Y⟩,O xa xm xc),(⟨w.heap.size+1,1,Y⟩,Z xs),(⟨w.heap.size+1,2,Y⟩,O ao aq ap),(⟨g,0,Y⟩,O n t r),(⟨g,1,Y⟩,Z P),(⟨g,2,Y⟩,O o u s),(⟨m,0,Y⟩,O T ad ab),(⟨m,1,Y⟩,Z af),(⟨m,2,Y⟩,O aa ae ac)],w.heap.size+1+1≠q.1.block:=by
   simp<;>omega
  refine Je (i:=11) fun K hK=>?_;go_simp;refine kO hK (Ca.set3 (by assumption) bW _ _ _) (fun f=>?_);clear hK K;refine Ac (i:=12) ?_;refine Wd ?_;have Xw:=ia (aE.o.trans (bM.o.trans X7));go_wp2;have hP:=hO.put bs;obtain⟨pa,pm,a9,bb,a7,ba,a8,bd,be,bf,_,_,_,_,hz⟩:=hP.rd;refine bR (v:=G #[N #[O pa pm a9,Z bb,O a7 ba a8],Z true]) (by simp[results,Tryz.results89,go_sem,bd,be,bf]) rfl ?_;rw[<-HR.o];exact⟨_,rfl,hz,((Xw.o.set dO _).set dO _).set dO _⟩
 ·rw[if_neg c]at HR;have c1:decide (0<=sd*se)=true:=by simp<;>omega
  have c2:0<=sd*se:=oM;refine sN 4 ?_
  iterate 2 refine Fc ?_
  refine oN ?_;refine Wd ?_;have hO:=aR.o.ext Xb;have Xw:=ia (aE.o.trans Xb);obtain⟨_,_,_,_,_,_,_,o0,o1,o2,bX,bY,bZ,zo,_⟩:=hO.rd;clear f aO am Xa Xb aS aT qw c;go_wp2;have hP:=hO.put (La.zero w2);obtain⟨pa,pm,a9,bb,a7,ba,a8,bd,be,bf,_,_,_,_,hz⟩:=hP.rd;refine bR (v:=G #[N #[O pa pm a9,Z bb,O a7 ba a8],Z false]) (by simp[results,Tryz.results89,go_sem,bd,be,bf]) rfl ?_;rw[<-HR.o];exact⟨_,rfl,hz,((Xw.o.set dO _).set dO _).set dO _⟩
end
section
open Go.RowKit Go.Shelf Go.Sort
attribute [local go_sem] Oper.semAt_some
def iM(w:X)(c:List M)(l:LP):Prop:=∃v,c=[v]/\Pd w v l
abbrev Vk(w:X)(v:M)(lss:List LP):Prop:=Sl 129 1 iM w v lss
def Vk.i{w w':X}{v:M}{a:List LP}(h:Vk w v a)(k:oa w w'):Vk w' v a:=Sl.ext h (fun _ _ ⟨v,c,d⟩=>⟨v,c,d.i k⟩) k
def Vk.at'{w:X}{a:Option Addr}{n c:Nat}{e:List LP}(h:Vk w (O a n c) e){i:Nat}{l:LP}(j:e[i]?=F l):∃b o v,a=F ⟨b,o,Y⟩/\b<w.heap.size/\w.cell? ⟨b,o+i,Y⟩=F v/\Pd w v l:=by obtain⟨b,o,d,rfl,f,k,⟨v,rfl,hv⟩,g⟩:=Sl.at h j;exact⟨b,o,v,rfl,f,by simpa using g 0 v rfl,hv⟩
end
section
open Go.RowKit Go.Shelf Go.Lib
attribute [local go_sem] Oper.semAt_some
end
section
open Go.RowKit Go.Shelf Go.Sort
attribute [local go_sem] Oper.semAt_some
def QX(W:X)(b:Nat)(q:Rat):Prop:=∃s a m c t e i j,W.heap[b]?=F (C #[I J s,O a m c,I J t,O e i j] 48 (0,0))/\Wh W (N #[I J s,O a m c,I J t,O e i j]) q
section
variable {W W':X} {b b':Nat} {q q':Rat}
def QX.ext(h:QX W b q)(k:oa W W'):QX W' b q:=by obtain⟨s,a,m,c,t,e,i,j,d,f⟩:=h;exact⟨s,a,m,c,t,e,i,j,k.e d,f.ext k⟩
def QX.not(h:QX W b q):Wc 3 W b:=by obtain⟨s,a,m,c,t,e,i,j,d,k⟩:=h;intro f g e;rw[d]at e;cases e
def QX.rd(h:QX W b q):∃s a m c t e i j,W.cell? ⟨b,0,Y⟩=F (I J s)/\W.cell? ⟨b,1,Y⟩=F (O a m c)/\W.cell? ⟨b,2,Y⟩=F (I J t)/\W.cell? ⟨b,3,Y⟩=F (O e i j)/\(∀k,W.frozen? ⟨b,k,Y⟩=false)/\b<W.heap.size/\Wh W (N #[I J s,O a m c,I J t,O e i j]) q:=by obtain⟨s,a,m,c,t,e,i,j,d,f⟩:=h;exact⟨s,a,m,c,t,e,i,j,Gb d (i:=0) rfl,Gb d (i:=1) rfl,Gb d (i:=2) rfl,Gb d (i:=3) rfl,Vb d,jc d,f⟩
def QX.put{s t:Int}{a e:Option Addr}{m c i j:Nat}(h:QX W b q)(n:Wh W (N #[I J s,O a m c,I J t,O e i j]) q'):QX ((((W.setCell ⟨b,0,Y⟩ (I J s)).setCell ⟨b,1,Y⟩ (O a m c)).setCell ⟨b,2,Y⟩ (I J t)).setCell ⟨b,3,Y⟩ (O e i j)) b q':=by have l:=h.not;obtain⟨v,d,u,f,w,g,o,r,k,x⟩:=h;exact⟨s,a,m,c,t,e,i,j,Qo (cs:=[I J v,O d u f,I J w,O g o r]) [I J s,O a m c,I J t,O e i j] k rfl,n.keep (Ql [I J s,O a m c,I J t,O e i j] 0 l)⟩
def QX.other4(h:QX W b q)(n:QX W b' q')(d:b≠b')(f g k l:M):QX ((((W.setCell ⟨b',0,Y⟩ f).setCell ⟨b',1,Y⟩ g).setCell ⟨b',2,Y⟩ k).setCell ⟨b',3,Y⟩ l) b q:=by obtain⟨s,a,m,c,t,e,i,j,o,r⟩:=h;refine⟨s,a,m,c,t,e,i,j,?_,r.keep (Ql [f,g,k,l] 0 n.not)⟩;have:=Wl d [f,g,k,l] 0 W;exact this.trans o
def QX.new{s t:Int}{a e:Option Addr}{m c i j:Nat}(f:Wh W (N #[I J s,O a m c,I J t,O e i j]) q)(d:b=W.heap.size):QX (W.alloc (C #[I J s,O a m c,I J t,O e i j] 48)) b q:=
 ⟨s,a,m,c,t,e,i,j,Kc _ _ _ d,f.ext ((eR _).alloc _)⟩
def QX.put2{p w:Rat}{j k t u:Int}{a d l m:Option Addr}{i c f g s c2 o r:Nat}(h:QX W b q)(x:QX W b' q')(e:b≠b')(y:Wh W (N #[I J j,O a i c,I J k,O d f g]) p)(n:Wh W (N #[I J t,O l s c2,I J u,O m o r]) w):QX ((((((((W.setCell ⟨b,0,Y⟩ (I J j)).setCell ⟨b,1,Y⟩ (O a i c)).setCell ⟨b,2,Y⟩ (I J k)).setCell ⟨b,3,Y⟩ (O d f g)).setCell ⟨b',0,Y⟩ (I J t)).setCell ⟨b',1,Y⟩ (O l s c2)).setCell ⟨b',2,Y⟩ (I J u)).setCell ⟨b',3,Y⟩ (O m o r)) b p/\QX ((((((((W.setCell ⟨b,0,Y⟩ (I J j)).setCell ⟨b,1,Y⟩ (O a i c)).setCell ⟨b,2,Y⟩ (I J k)).setCell ⟨b,3,Y⟩ (O d f g)).setCell ⟨b',0,Y⟩ (I J t)).setCell ⟨b',1,Y⟩ (O l s c2)).setCell ⟨b',2,Y⟩ (I J u)).setCell ⟨b',3,Y⟩ (O m o r)) b' w:=by have z:=h.put y;have v:=x.other4 h (Ne.symm e) (I J j) (O a i c) (I J k) (O d f g);exact⟨z.other4 v e _ _ _ _,v.put (n.keep (Ql [I J j,O a i c,I J k,O d f g] 0 h.not))⟩
def QX.drew(h:QX W b q):QX W.drew b q:=h.ext (eR _).drew
end
def Kp{n:Int}(a:-9223372036854775808<=n)(c:n<=9223372036854775807):Lm 3 n:=by unfold Lm B;omega
def PF(w:X)(n d:Int)(k:-9223372036854775808<=n)(l:n<=9223372036854775807)(m:-9223372036854775808<=d)(o:d<=9223372036854775807)(K:d≠0):Calls Tryz.prog 26 #[I J n,I J d] w fun e T=>∃r,e=.returned (G #[r,I J 0])/\La T r (Rat.divInt n d)/\oa w T:=by
 have HN:=ia (fun(W:X)=>Po W n k l);have HD:=ia (fun(W:X)=>Po W d m o);have z:=ia (fun(W:X)(P R:M)(h4:Nc W P n)(h5:Nc W R d)=>Cw W P R n d h4 h5 ((Kp k l).mono dM) ((Kp m o).mono dM));rw[if_neg K]at z;clear k l m o K;go_in;go_wp2_with(first|(go_at_call 74;(with_reducible refine(HN.o _).mono ?_);rintro e w1 ⟨r1,rfl,a,x⟩;obtain⟨a1,m1,c1,s1,rfl⟩:=a.form;obtain⟨⟨s,ab⟩,i⟩:=Jf w x)|(go_at_call 74;(with_reducible refine(HD.o _).mono ?_);rintro e w2 ⟨r2,rfl,c,g⟩;obtain⟨a2,m2,c2,s2,rfl⟩:=c.form;obtain⟨⟨t,ac⟩,j⟩:=Jf w g)|(go_at_call 80;refine cM (z.o _ _ _ (a.ext g) c) ?_;rintro e w3 ⟨r3,rfl,f,y⟩;obtain⟨a3,m3,c3,s3,b3,n3,k3,rfl⟩:=f.form;obtain⟨⟨u,ad⟩,aa⟩:=Jf w y));refine bR (v:=G #[N #[O a3 m3 c3,Z s3,O b3 n3 k3],I J 0]) (by simp[results,Tryz.results26,go_sem,s,t,u,i,j]) rfl ⟨_,rfl,f.keep kA,eA⟩
