import Derived.Test.YtjnjpagegkcgfaaGreatDoorCobA05
import Derived.Laws.StructEq
set_option maxRecDepth 1000000
set_option maxHeartbeats 16000000
set_option linter.all false
open Go.Value renaming int->O,slice->I,agg->J,bool->M
open Go.IntKind renaming i64->Y
open Option renaming some->Z,none->V
open Go renaming World->X,Value->N
namespace Go.Proofs.YtjnjpagegkcgfaaGreatDoor.Cop
section
open Go.RowKit Go.Shelf
def Xe(p:Int×Int):Bool:=!Ta p.1 0 2000 || !Ta p.2 0 2000
def XB(w:X)(x z:Int):Calls Tryz.prog 205 #[J #[O Y x,O Y z]] w fun e i=>e=.returned (M (Xe (x,z)))/\Ba w i:=by
 by_cases h:Ta x 0 2000=true
 ·have e:Xe (x,z)=!Ta z 0 2000:=by simp[Xe,h]
  rw[e];clear e;go_in;go_wp2_with(first|((go_at_call 160;(with_reducible refine(Th _ x 0 2000).mono ?_);rw[h];rintro e j ⟨rfl,a⟩;obtain⟨⟨c,d⟩,b⟩:=Md w a))|((go_at_call 160;(with_reducible refine(Th _ z 0 2000).mono ?_);rintro e k ⟨rfl,g⟩)));go_ret;exact⟨rfl,eA⟩
 ·have f:Ta x 0 2000=false:=by simpa using h
  have e:Xe (x,z)=true:=by simp[Xe,f]
  rw[e];clear e;go_in;go_wp2_with(((go_at_call 160;(with_reducible refine(Th _ x 0 2000).mono ?_);rw[f];rintro e j ⟨rfl,a⟩;obtain⟨⟨c,d⟩,b⟩:=Md w a)));go_ret;exact⟨rfl,eA⟩
def Pe{α:Type}(f:α->Bool)(xs:List α):Int:=match xs.findIdx? f with|some i=>(i:Int)|none=>-1
def ku{α:Type}{f:α->Bool}{xs:List α}{i:Nat}{x:α}(e:xs[i]?=Z x)(a:f x=true)(d:∀j y,j<i->xs[j]?=Z y->f y=false):Pe f xs=(i:Int):=by
 obtain⟨b,rfl⟩:=lS.1 e;have:xs.findIdx? f=Z i:=by
  rw[List.findIdx?_eq_some_iff_getElem];exact⟨b,a,fun j c=>by simpa using d j _ c (gE oM)⟩
 unfold Pe;rw[this]
def lu{α:Type}{f:α->Bool}{xs:List α}(b:∀j y,j<xs.length->xs[j]?=Z y->f y=false):Pe f xs = -1:=by
 have:xs.findIdx? f=V:=by
  rw[List.findIdx?_eq_none_iff];intro x c;obtain⟨j,a⟩:=List.mem_iff_getElem?.1 c;exact b j x (lS.1 a).1 a
 unfold Pe;rw[this]
def Nv{α:Type}(f:α->Bool)(xs:List α):decide (0<=Pe f xs)=xs.any f:=by
 unfold Pe;cases h:xs.findIdx? f with
 |none=>
  rw[List.findIdx?_eq_none_iff]at h;have:xs.any f=false:=by rw[List.any_eq_false];intro x c;simp[h x c]
  rw[this];rfl
 | some i =>
  rw[List.findIdx?_eq_some_iff_getElem]at h;obtain⟨b,a,_⟩:=h;have:xs.any f=true:=List.any_eq_true.2 ⟨_,List.getElem_mem b,a⟩;rw[this];simp
def sF(w:X)(f:Int×Int->Bool)(ps:LP)(g:Nat)(a:N)(W:X):Prop:=
 ∃i:Nat,i<=ps.length/\a=O Y i/\g=ps.length-i/\Ba w W/\∀j y,j<i->ps[j]?=Z y->f y=false
def pM(w:X)(v:N)(ps:LP)(h:Ja w v ps):Calls Tryz.prog 244 #[v,.func (.func 205) #[] #[]] w fun e W=>e=.returned (O Y (Pe Xe ps))/\Ba w W:=by
 obtain⟨a,c,rfl⟩:=h.form;obtain⟨n,z⟩:=gX ps.length;rw[z]at h ⊢;have l:=h.le;unfold maxLen at l;have T:n<=9223372036854775807:=oM;have f:=Aa z;clear z l;go_in;go_wp2;go_loopg [8] n (sF w Xe ps)
 case atStart=>exact⟨0,by omega,rfl,by rw[f.o];rfl,eR _,fun j y p=>by omega⟩
 case round =>
  obtain⟨i,S,rfl,rfl,R,g⟩:=hrel;rw[f.o]at S;have d:=Aa g;clear g;by_cases x:i<n
  ·obtain⟨q,K⟩:∃q,ps[i]?=Z q:=⟨ps[i]'(by rw[f.o];omega),by simp[f.o,x]⟩;obtain⟨r,s⟩:=q;obtain⟨b,o,rfl,hb,d0,d1⟩:=(h.f R).at' K;have Q:=Aa K;clear K;by_cases t:Xe (r,s)=true
   ·have e:Pe Xe ps=(i:Int):=ku Q.o t d.o;have E:=Aa e;clear e;go_wp2_with(((go_at_call 205;(with_reducible refine(XB _ r s).mono ?_);rw[t];rintro e w1 ⟨rfl,P⟩)));go_ret;exact⟨by rw[E.o];rfl,eA⟩
   ·(have k:Xe (r,s)=false:=by simpa using t);go_wp2_with(((go_at_call 205;(with_reducible refine(XB _ r s).mono ?_);rw[k];rintro e w1 ⟨rfl,P⟩)));go_roundg (n-(i+1))
    case measure=>have:=f.o;omega
    case rel =>
     refine⟨i+1,by have:=f.o;omega,by go_num,by rw[f.o],eA,fun j y p m=>?_⟩;by_cases u:j=i
     ·subst u;rw[Q.o]at m;cases m;exact k
     ·exact d.o j y oM m
  ·obtain rfl:i=n:=oM;have e:Pe Xe ps = -1:=lu (fun j y p m=>d.o j y (by rw[f.o]at p;exact p) m);have E:=Aa e;clear e;go_wp2;go_ret;exact⟨by rw[E.o];rfl,R⟩
def RN(w:X)(v:N)(ps:LP)(h:Ja w v ps):Calls Tryz.prog 206 #[v,.func (.func 205) #[] #[]] w fun e g=>e=.returned (M (ps.any Xe))/\Ba w g:=by rw[<-Nv];obtain⟨x,b⟩:=gX (Pe Xe ps);have a:=fun W (d:Ba w W)=>pM W v ps (h.f d);rw[b]at *;have c:=Aa a;clear a b;go_in;go_wp2_with(((go_at_call 244;refine cM (c.o _ eA) ?_;rintro e i ⟨rfl,f⟩)));go_ret;exact⟨rfl,eA⟩
def Bj:List Int->Int
 | []=>0
 | x::xs=>if x=0 then Bj xs else x
def Fz:∀{a:List Int}{i:Nat}{x:Int},a[i]?=Z x->x≠0->(∀j y,j<i->a[j]?=Z y->y=0)->Bj a=x
 | [],_,_,h,_,_=>by simp at h
 | y::ys,0,x,h,h0,_=>by simp at h;subst h;simp[Bj,h0]
 | y::ys,i+1,x,h,h0,hn=>by
  have b:y=0:=hn 0 y oM rfl;rw[Bj,if_pos b];exact Fz (by simpa using h) h0 (fun j z d c=>hn (j+1) z oM (by simpa using c))
def uC:∀{a:List Int},(∀(j:Nat)(y:Int),a[j]?=Z y->y=0)->Bj a=0
 | [],_=>rfl
 | y::ys,h=>by rw[Bj,if_pos (h 0 y rfl)];exact uC (fun j z b=>h (j+1) z (by simpa using b))
def lR(w:X)(xs:List Int)(g:Nat)(a:N)(W:X):Prop:=
 ∃i:Nat,i<=xs.length/\a=O Y i/\g=xs.length-i/\Ba w W/\∀j y,j<i->xs[j]?=Z y->y=0
def xH(w:X)(v:N)(xs:List Int)(h:Pc 3 w v xs):Calls Tryz.prog 273 #[v] w fun e W=>e=.returned (O Y (Bj xs))/\Ba w W:=by
 obtain⟨a,c,rfl⟩:=h.form;obtain⟨n,s⟩:=gX xs.length;rw[s]at h ⊢;have m:=h.le;unfold maxLen at m;have T:n<=9223372036854775807:=oM;have f:=Aa s;clear s m;go_in;go_wp2;go_loopg [8] n (lR w xs)
 case atStart=>exact⟨0,by omega,rfl,by rw[f.o];rfl,eR _,fun j y S=>by omega⟩
 case round =>
  obtain⟨i,R,rfl,rfl,p,g⟩:=hrel;rw[f.o]at R;have d:=Aa g;clear g;by_cases r:i<n
  ·obtain⟨x,t⟩:∃x,xs[i]?=Z x:=⟨xs[i]'(by rw[f.o];omega),by simp[f.o,r]⟩;obtain⟨b,o,rfl,hb,z⟩:=(h.ext p).open (by rw[f.o];omega);have Q:=z i x t;have u:=Aa t;clear t z;by_cases l:x=0
   ·subst l;go_wp2;go_roundg (n-(i+1))
    case measure=>have:=f.o;omega
    case rel =>
     refine⟨i+1,by have:=f.o;omega,by go_num,by rw[f.o],p,fun j y S k=>?_⟩;by_cases q:j=i
     ·subst q;rw[u.o]at k;cases k;rfl
     ·exact d.o j y oM k
   ·have e:Bj xs=x:=Fz u.o l d.o;have E:=Aa e;(have K:(x != 0)=true:=by simpa using l);(have P:(x==0)=false:=by simpa using l);clear e l;go_wp2;go_ret;exact⟨by rw[E.o];rfl,p⟩
  ·obtain rfl:i=n:=oM;have e:Bj xs=0:=uC (fun j y k=>d.o j y (by have:=(lS.1 k).1;rw[f.o]at this;exact this) k);have E:=Aa e;clear e;go_wp2;go_ret;exact⟨by rw[E.o];rfl,p⟩
def QM(w:X)(v:N)(xs:List Int)(h:Pc 3 w v xs):Calls Tryz.prog 247 #[v] w fun e g=>e=.returned (O Y (Bj xs))/\Ba w g:=by obtain⟨x,b⟩:=gX (Bj xs);have a:=fun W (d:Ba w W)=>xH W v xs (h.ext d);rw[b]at *;have c:=Aa a;clear a b;go_in;go_wp2_with(((go_at_call 273;refine cM (c.o _ eA) ?_;rintro e i ⟨rfl,f⟩)));go_ret;exact⟨rfl,eA⟩
def Sk(p q:Int×Int):Int:=Bj [Lc p.2 q.2,Lc p.1 q.1]
def Sr(W:X)(x y:Int):Pc 3 (W.alloc (.cells #[O Y x,O Y y] 3)) (I (Z ⟨W.heap.size,0,V⟩) 2 2) [x,y]:=by
 refine⟨rfl,_,_,rfl,nE _,by unfold maxLen;omega,.inr ⟨W.heap.size,0,_,_,rfl,aN W _,?_⟩⟩;intro i v hv
 match i,hv with
 | 0,hv=>simpa[Nc] using hv
 | 1,hv=>simpa[Nc] using hv
 | i+2,hv=>simp[Nc]at hv
def VM(w:X)(a b c d:Int):Calls Tryz.prog 210 #[J #[O Y a,O Y b],J #[O Y c,O Y d]] w fun e P=>e=.returned (O Y (Sk (a,b) (c,d)))/\Ba w P:=by
 obtain⟨r,i⟩:=gX (Sk (a,b) (c,d));rw[i];have t:Sa (Bj [Lc b d,Lc a c]=r):=Aa i;clear i;go_in;go_wp2;go_region_held3 (fun W=>W.cell? ⟨w.heap.size,0,V⟩=Z (O Y a)/\W.cell? ⟨w.heap.size,1,V⟩=Z (O Y b)/\W.cell? ⟨w.heap.size+1,0,V⟩=Z (O Y c)/\W.cell? ⟨w.heap.size+1,1,V⟩=Z (O Y d)) ((repeat' (with_reducible refine And.intro ?_ ?_))<;>(first|(go_simp;done)|(refine hx1.d ?_;go_simp;done))) (first|((go_at_call 248;(with_reducible refine(EE _ b d).mono ?_);rintro e Q ⟨rfl,hx1⟩;obtain⟨⟨u,y⟩,m,n⟩:=Zb w hx1))|((go_at_call 248;(with_reducible refine(EE _ a c).mono ?_);rintro e l ⟨rfl,j⟩;obtain⟨⟨v,z⟩,o,p⟩:=Zb w j;have f:w.heap.size<l.heap.size+1:=oM;have g:w.heap.size+1<l.heap.size+1:=oM))|((go_at_call 247;(with_reducible refine(QM _ (I (Z ⟨l.heap.size,0,V⟩) 2 2) [Lc b d,Lc a c] ?_).mono ?_);(refine Sr _ _ _);rw[t.o];rintro e R ⟨rfl,k⟩;obtain⟨⟨x,K⟩,q,s⟩:=Zb w k)))
 all_goals go_wp2
 go_ret;exact⟨rfl,eA⟩
def Uh(m q:Int×Int):Int×Int:=if Sk q m<0 then q else m
def pf:LP->Int×Int
 | []=>(0,0)
 | p::ps=>ps.foldl Uh p
def MC(ps:LP)(q:Int×Int)(h:ps≠[]):pf (ps++[q])=Uh (pf ps) q:=by
 cases ps with
 | nil=>exact absurd rfl h
 | cons p ps=>simp[pf]
def pR(w:X)(ps:LP)(g:Nat)(a:N)(W:X):Prop:=
 ∃i:Nat,1<=i/\i<=ps.length/\a=O Y i/\g=ps.length-i/\Ba w W/\W.heap[w.heap.size]?=Z (.cells #[O Y 0,O Y 0] 43 (0,0))/\
  ∃x z,pf (ps.take i)=(x,z)/\W.heap[w.heap.size+1]?=Z (.cells #[O Y x,O Y z] 43 (0,0))
def uA(w:X)(v:N)(ps:LP)(h:Ja w v ps)(h0:0<ps.length):Calls Tryz.prog 209 #[v,.func (.func 210) #[] #[]] w fun e w'=>e=.returned (J #[O Y (pf ps).1,O Y (pf ps).2])/\Ba w w':=by
 obtain⟨a,c,rfl⟩:=h.form;obtain⟨n,hn⟩:=gX ps.length;rw[hn]at h ⊢;have S:=h.le;unfold maxLen at S;have am:0<n:=oM;have an:(1:Int)<=(n:Int):=oM;have ao:n<=9223372036854775807:=oM;obtain⟨⟨x0,z0⟩,hp⟩:∃p,ps[0]?=Z p:=⟨ps[0],by simp⟩;obtain⟨b,o,rfl,hb,c0,c1⟩:=h.at' hp;simp only[Nat.zero_mul,Nat.add_zero]at c0 c1;have ak:b<w.heap.size+1:=oM;have T:pf (ps.take 1)=(x0,z0):=by rw[Rf _ _ _ hp];rfl
 have ae:=Aa T;have f:=Aa hn;clear hn S hp h0 T;go_in;go_wp2;go_loopg [6] (n-1) (pR w ps)
 case atStart =>
  exact⟨1,nE _,by rw[f.o];omega,rfl,by rw[f.o],eA,by rw[Ag,if_neg sM];exact Ec _ _ _ rfl,x0,z0,ae.o,Ec _ _ _ sM⟩
 case round =>
  obtain⟨i,al,hi,rfl,rfl,hx,s,x,z,hv,r⟩:=hrel;rw[f.o]at hi;have r0:=Ca s (i:=0) (u:=O Y 0) rfl;have r1:=Ca s (i:=1) (u:=O Y 0) rfl;have ar:=Ua s 0;have au:=Ua s 1;have o0:=Ca r (i:=0) (u:=O Y x) rfl;have o1:=Ca r (i:=1) (u:=O Y z) rfl;have ap:=Ua r 0;have aq:=Ua r 1;have zr:=Gb s;have zo:=Gb r;have HR:=Aa s;have HO:=Aa r;have HV:=Aa hv;clear s r hv c0 c1;by_cases ai:i<n
  ·obtain⟨⟨y,K⟩,hq⟩:∃q,ps[i]?=Z q:=⟨ps[i]'(by rw[f.o];omega),by simp[f.o,ai]⟩;obtain⟨b',o',e',aj,d0,d1⟩:=(h.f hx).at' hq;cases e';have aa:ps.take i≠[]:=by
    intro e;(have h2:(ps.take i).length=0:=by rw[e];rfl);rw[List.length_take,f.o]at h2;omega
   have d:pf (ps.take (i+1))=Uh (x,z) (y,K):=by rw[Rf _ _ _ hq,MC _ _ aa,HV.o]
   obtain⟨C,hC⟩:=gX (Sk (y,K) (x,z));unfold Uh at d;rw[hC]at d;have R:=Aa d;have k:=fun W=>VM W y K x z;rw[hC]at k;have m:=Aa k;clear hq d aa hC k;have p1:(0:Int)<=(i:Int):=oM;have p2:(i:Int)<(n:Int):=oM;by_cases P:C<0
   ·(have ag:decide (C<0)=true:=by simpa using P);have Q:=Aa P;clear P;go_wp2;go_region_held3 (fun W=>W.cell? ⟨b,o+i*2,V⟩=Z (O Y y)/\W.cell? ⟨b,o+i*2+1,V⟩=Z (O Y K)/\W.cell? ⟨w.heap.size+1,0,V⟩=Z (O Y x)/\W.cell? ⟨w.heap.size+1,1,V⟩=Z (O Y z)) ((repeat' (with_reducible refine And.intro ?_ ?_))<;>(first|(go_simp;done)|(refine hx1.d ?_;go_simp;done))) (((go_at_call 210;refine cM (m.o _) ?_;rintro e w1 ⟨rfl,hx1⟩;obtain⟨⟨af,ah⟩,ab,ac⟩:=Zb w hx1)))
    all_goals go_wp2
    all_goals
     go_roundg (n-(i+1))
     case measure=>have:=f.o;omega
     case rel =>
      have l:Ba wr w1:=(eR wr).drew.trans hx1;have j:=l.e HR.o;have g:=l.e HO.o;have d:=R.o
      first
       | (rw[if_pos Q.o]at d;exact⟨i+1,by omega,by rw[f.o];omega,by go_num,by rw[f.o],eA,by rw[bS _ _ _ _ dO,bS _ _ _ _ dO];exact j,y,K,d,Oj g _ _⟩)
       | (rw[if_neg (by have:=Q.o;omega)]at d;exact⟨i+1,by omega,by rw[f.o];omega,by go_num,by rw[f.o],eA,j,x,z,d,g⟩)
   ·(have ag:decide (C<0)=false:=by simpa using P);have Q:=Aa P;clear P;go_wp2;go_region_held3 (fun W=>W.cell? ⟨b,o+i*2,V⟩=Z (O Y y)/\W.cell? ⟨b,o+i*2+1,V⟩=Z (O Y K)/\W.cell? ⟨w.heap.size+1,0,V⟩=Z (O Y x)/\W.cell? ⟨w.heap.size+1,1,V⟩=Z (O Y z)) ((repeat' (with_reducible refine And.intro ?_ ?_))<;>(first|(go_simp;done)|(refine hx1.d ?_;go_simp;done))) (((go_at_call 210;refine cM (m.o _) ?_;rintro e w1 ⟨rfl,hx1⟩;obtain⟨⟨af,ah⟩,ab,ac⟩:=Zb w hx1)))
    all_goals go_wp2
    all_goals
     go_roundg (n-(i+1))
     case measure=>have:=f.o;omega
     case rel =>
      have l:Ba wr w1:=(eR wr).drew.trans hx1;have j:=l.e HR.o;have g:=l.e HO.o;have d:=R.o
      first
       | (rw[if_pos Q.o]at d;exact⟨i+1,by omega,by rw[f.o];omega,by go_num,by rw[f.o],eA,by rw[bS _ _ _ _ dO,bS _ _ _ _ dO];exact j,y,K,d,Oj g _ _⟩)
       | (rw[if_neg (by have:=Q.o;omega)]at d;exact⟨i+1,by omega,by rw[f.o];omega,by go_num,by rw[f.o],eA,j,x,z,d,g⟩)
  ·obtain rfl:i=n:=oM;have t:=HV.o;rw[lT (by rw[f.o];omega)]at t;have ad:=Aa t;clear t;go_wp2;refine bR (v:=J #[O Y x,O Y z]) (by simp[results,Tryz.results209,go_sem,r0,r1]) rfl ⟨?_,eA⟩;rw[ad.o]
def ve(ps:LP):Bool:=!(ps.any Xe)&&ub ps&&(Va ps==(0,0))&&(pf ps==ps.getD 0 (0,0))
def LD{ps:LP}(h:ps.any Xe=true):ve ps=false:=by simp[ve,h]
def Cu{ps:LP}(h:ub ps=false):ve ps=false:=by simp[ve,h]
def Oy{ps:LP}(h:ps.any Xe=false):xg 2000 ps:=by intro p b;have a:=(List.any_eq_false.1 h) p b;simp[Xe,Ta]at a;unfold Bd;omega
def xg.mono{j k:Int}{ps:LP}(h:xg j ps)(a:j<=k):xg k ps:=fun p b=>⟨(h p b).1.mono a,(h p b).2.mono a⟩
def Cx{ps:LP}(h:ub ps=true):3<=ps.length/\ps.length<=12:=by unfold ub at h;rw[Bool.and_eq_true]at h;have:=h.1;simp[Ta]at this;omega
def NO(w:X)(v:N)(ps:LP)(h:Ja w v ps):Calls Tryz.prog 162 #[v] w fun e S=>e=.returned (M (ve ps))/\Ba w S:=by
 obtain⟨a,c,rfl⟩:=h.form;obtain⟨n,hn⟩:=gX ps.length;rw[hn]at h ⊢;have i:=fun W (hW:Ba w W)=>RN W (I a n c) ps (h.f hW);by_cases hf:ps.any Xe=true
 ·rw[LD hf];rw[hf]at i;have g:=Aa i;clear i hf;go_in;go_wp2_with(((go_at_call 206;refine cM (g.o _ eA) ?_;rintro e w1 ⟨rfl,d⟩)));go_ret;exact⟨rfl,eA⟩
 have K:ps.any Xe=false:=by simpa using hf
 have ah:=Oy K;rw[K]at i;have g:=Aa i;have u:=fun W (hW:Ba w W)=>CO W (I a n c) ps (h.f hW) (ah.mono dM);by_cases hc:ub ps=true
 ·have am:=Cx hc;have h0:0<ps.length:=oM;rw[hc]at u;have q:=Aa u;have aj:=fun W (hW:Ba w W)=>OC W (I a n c) ps (h.f hW) h0;have al:=fun W (hW:Ba w W)=>uA W (I a n c) ps (h.f hW) h0;obtain⟨⟨lx,lz⟩,hl⟩:∃p,Va ps=p:=⟨_,rfl⟩;obtain⟨⟨t,mz⟩,hm⟩:∃p,pf ps=p:=⟨_,rfl⟩;obtain⟨⟨m,r⟩,hp⟩:∃p,ps[0]?=Z p:=⟨ps[0],by simp⟩;rw[hl]at aj;rw[hm]at al;have an:ve ps=((decide (lx=0)&&decide (lz=0))&&(decide (t=m)&&decide (mz=r))):=by
   unfold ve;rw[K,hc,hl,hm,gD,hp];rw[Bool.eq_iff_iff];simp[and_assoc]
  rw[an];have x:=Aa aj;have ae:=Aa al;obtain⟨b,o,rfl,hb,c0,c1⟩:=h.at' hp;simp only[Nat.zero_mul,Nat.add_zero]at c0 c1;have aq:(0:Int)<(n:Int):=by rw[hn]at h0;omega
  clear aj al u i hf K hc hl hm hp an hn am ah h0;by_cases ak:lx=0/\lz=0
  ·obtain⟨rfl,rfl⟩:=ak;have ar:0<n:=oM;have af:t=m/\mz=r->Calls Tryz.prog 162 #[I (Z ⟨b,o,V⟩) n c] w fun e S=>e=.returned (M ((decide ((0:Int)=0)&&decide ((0:Int)=0))&&(decide (t=m)&&decide (mz=r))))/\Ba w S:=by
    intro j;have f1:(t==m)=true:=(by simpa using j.1);have f2:(mz==r)=true:=(by simpa using j.2);have g1:(decide (t=m)&&decide (mz=r))=true:=(by simp[j.1,j.2]);rw[g1];clear g1 j;go_in;go_wp2_with(first|((go_at_call 206;refine cM (g.o _ eA) ?_;rintro e w1 ⟨rfl,d⟩;obtain⟨aa,ac⟩:=d.cells;(have l:=d.lt hb)))|((go_at_call 207;refine cM (q.o _ eA) ?_;rintro e w2 ⟨rfl,f⟩;obtain⟨ab,ad⟩:=f.cells;(have s:=f.lt l))));have T:b<w2.heap.size:=s;go_region_held3 (fun W=>W.cell? ⟨b,o,V⟩=Z (O Y m)/\W.cell? ⟨b,o+1,V⟩=Z (O Y r)) ((repeat' (with_reducible refine And.intro ?_ ?_))<;>(first|(go_simp;done)|(refine d.d ?_;go_simp;done))) (first|((go_at_call 208;refine cM (x.o _ eA) ?_;rintro e w3 ⟨rfl,k⟩;obtain⟨y,P⟩:=k.cells;(try simp only[Mg,Lg,Cc]at y P);(have ao:=k.lt T)))|((go_at_call 209;refine cM (ae.o _ eA) ?_;rintro e w4 ⟨rfl,R⟩;obtain⟨z,Q⟩:=R.cells;(try simp only[Mg,Lg,Cc]at z Q))))
    all_goals go_wp2
    go_ret;exact⟨rfl,eA⟩
   have ag:t=m/\mz≠r->Calls Tryz.prog 162 #[I (Z ⟨b,o,V⟩) n c] w fun e S=>e=.returned (M ((decide ((0:Int)=0)&&decide ((0:Int)=0))&&(decide (t=m)&&decide (mz=r))))/\Ba w S:=by
    intro j;have f1:(t==m)=true:=(by simpa using j.1);have f2:(mz==r)=false:=(by simpa using j.2);have g1:(decide (t=m)&&decide (mz=r))=false:=(by simp[j.2]);rw[g1];clear g1 j;go_in;go_wp2_with(first|((go_at_call 206;refine cM (g.o _ eA) ?_;rintro e w1 ⟨rfl,d⟩;obtain⟨aa,ac⟩:=d.cells;(have l:=d.lt hb)))|((go_at_call 207;refine cM (q.o _ eA) ?_;rintro e w2 ⟨rfl,f⟩;obtain⟨ab,ad⟩:=f.cells;(have s:=f.lt l))));have T:b<w2.heap.size:=s;go_region_held3 (fun W=>W.cell? ⟨b,o,V⟩=Z (O Y m)/\W.cell? ⟨b,o+1,V⟩=Z (O Y r)) ((repeat' (with_reducible refine And.intro ?_ ?_))<;>(first|(go_simp;done)|(refine d.d ?_;go_simp;done))) (first|((go_at_call 208;refine cM (x.o _ eA) ?_;rintro e w3 ⟨rfl,k⟩;obtain⟨y,P⟩:=k.cells;(try simp only[Mg,Lg,Cc]at y P);(have ao:=k.lt T)))|((go_at_call 209;refine cM (ae.o _ eA) ?_;rintro e w4 ⟨rfl,R⟩;obtain⟨z,Q⟩:=R.cells;(try simp only[Mg,Lg,Cc]at z Q))))
    all_goals go_wp2
    go_ret;exact⟨rfl,eA⟩
   have ap:t≠m->Calls Tryz.prog 162 #[I (Z ⟨b,o,V⟩) n c] w fun e S=>e=.returned (M ((decide ((0:Int)=0)&&decide ((0:Int)=0))&&(decide (t=m)&&decide (mz=r))))/\Ba w S:=by
    intro j;have f1:(t==m)=false:=(by simpa using j);have g1:(decide (t=m)&&decide (mz=r))=false:=(by simp[j]);rw[g1];clear g1 j;go_in;go_wp2_with(first|((go_at_call 206;refine cM (g.o _ eA) ?_;rintro e w1 ⟨rfl,d⟩;obtain⟨aa,ac⟩:=d.cells;(have l:=d.lt hb)))|((go_at_call 207;refine cM (q.o _ eA) ?_;rintro e w2 ⟨rfl,f⟩;obtain⟨ab,ad⟩:=f.cells;(have s:=f.lt l))));have T:b<w2.heap.size:=s;go_region_held3 (fun W=>W.cell? ⟨b,o,V⟩=Z (O Y m)/\W.cell? ⟨b,o+1,V⟩=Z (O Y r)) ((repeat' (with_reducible refine And.intro ?_ ?_))<;>(first|(go_simp;done)|(refine d.d ?_;go_simp;done))) (first|((go_at_call 208;refine cM (x.o _ eA) ?_;rintro e w3 ⟨rfl,k⟩;obtain⟨y,P⟩:=k.cells;(try simp only[Mg,Lg,Cc]at y P);(have ao:=k.lt T)))|((go_at_call 209;refine cM (ae.o _ eA) ?_;rintro e w4 ⟨rfl,R⟩;obtain⟨z,Q⟩:=R.cells;(try simp only[Mg,Lg,Cc]at z Q))))
    all_goals go_wp2
    go_ret;exact⟨rfl,eA⟩
   by_cases e1:t=m
   ·by_cases e2:mz=r
    ·exact af ⟨e1,e2⟩
    ·exact ag ⟨e1,e2⟩
   ·exact ap e1
  ·have hz:(decide (lx=0)&&decide (lz=0))=false:=by
    rw[Bool.and_eq_false_iff];by_cases h1:lx=0
    ·right;simp;exact fun h2=>ak ⟨h1,h2⟩
    ·left;simpa using h1
   rw[hz];clear hz;rw[Bool.false_and];have af:lx=0/\lz≠0->Calls Tryz.prog 162 #[I (Z ⟨b,o,V⟩) n c] w fun e S=>e=.returned (M false)/\Ba w S:=by
    intro j;have f1:(lx==0)=true:=(by simpa using j.1);have f2:(lz==0)=false:=(by simpa using j.2);clear j;go_in;go_wp2_with(first|((go_at_call 206;refine cM (g.o _ eA) ?_;rintro e w1 ⟨rfl,d⟩;obtain⟨aa,ac⟩:=d.cells;(have l:=d.lt hb)))|((go_at_call 207;refine cM (q.o _ eA) ?_;rintro e w2 ⟨rfl,f⟩;obtain⟨ab,ad⟩:=f.cells;(have s:=f.lt l))))
    first|(go_region_with (((go_at_call 208;refine cM (x.o _ eA) ?_;rintro e w3 ⟨rfl,k⟩))))|fail
    all_goals go_wp2
    all_goals go_ret
    all_goals exact⟨rfl,eA⟩
   have ag:lx≠0->Calls Tryz.prog 162 #[I (Z ⟨b,o,V⟩) n c] w fun e S=>e=.returned (M false)/\Ba w S:=by
    intro j;have f1:(lx==0)=false:=(by simpa using j);clear j;go_in;go_wp2_with(first|((go_at_call 206;refine cM (g.o _ eA) ?_;rintro e w1 ⟨rfl,d⟩;obtain⟨aa,ac⟩:=d.cells;(have l:=d.lt hb)))|((go_at_call 207;refine cM (q.o _ eA) ?_;rintro e w2 ⟨rfl,f⟩;obtain⟨ab,ad⟩:=f.cells;(have s:=f.lt l))))
    first|(go_region_with (((go_at_call 208;refine cM (x.o _ eA) ?_;rintro e w3 ⟨rfl,k⟩))))|fail
    all_goals go_wp2
    all_goals go_ret
    all_goals exact⟨rfl,eA⟩
   by_cases e1:lx=0
   ·exact af ⟨e1,fun h2=>ak ⟨e1,h2⟩⟩
   ·exact ag e1
 ·have ai:ub ps=false:=by simpa using hc
  rw[Cu ai];rw[ai]at u;have q:=Aa u;clear u hc ai i hf K ah;go_in;go_wp2_with(first|((go_at_call 206;refine cM (g.o _ eA) ?_;rintro e w1 ⟨rfl,d⟩))|((go_at_call 207;refine cM (q.o _ eA) ?_;rintro e w2 ⟨rfl,f⟩)));go_ret;exact⟨rfl,eA⟩
def TA(w:X)(x z:Int)(a:Bd 1000000 x)(b:Bd 1000000 z):Calls Tryz.prog 327 #[J #[O Y x,O Y z]] w fun e c=>e=.returned (J #[O Y x,O Y z])/\Ba w c:=by obtain⟨d,f⟩:=a;obtain⟨g,i⟩:=b;have j:IntKind.i64.wrap (-x) = -x:=iW _ ⟨by omega,by omega⟩;have k:IntKind.i64.wrap (-z) = -z:=iW _ ⟨by omega,by omega⟩;go_in;go_wp2;exact bR (v:=J #[O Y x,O Y z]) (by simp[results,Tryz.results327,go_sem]) rfl ⟨rfl,eA⟩
def SA(w:X)(x z:Int)(a:Bd 1000000 x)(b:Bd 1000000 z):Calls Tryz.prog 328 #[J #[O Y x,O Y z]] w fun e c=>e=.returned (J #[O Y (-z),O Y x])/\Ba w c:=by obtain⟨d,f⟩:=a;obtain⟨g,i⟩:=b;have j:IntKind.i64.wrap (-x) = -x:=iW _ ⟨by omega,by omega⟩;have k:IntKind.i64.wrap (-z) = -z:=iW _ ⟨by omega,by omega⟩;go_in;go_wp2;exact bR (v:=J #[O Y (-z),O Y x]) (by simp[results,Tryz.results328,go_sem]) rfl ⟨rfl,eA⟩
def yB(w:X)(x z:Int)(a:Bd 1000000 x)(b:Bd 1000000 z):Calls Tryz.prog 329 #[J #[O Y x,O Y z]] w fun e c=>e=.returned (J #[O Y (-x),O Y (-z)])/\Ba w c:=by obtain⟨d,f⟩:=a;obtain⟨g,i⟩:=b;have j:IntKind.i64.wrap (-x) = -x:=iW _ ⟨by omega,by omega⟩;have k:IntKind.i64.wrap (-z) = -z:=iW _ ⟨by omega,by omega⟩;go_in;go_wp2;exact bR (v:=J #[O Y (-x),O Y (-z)]) (by simp[results,Tryz.results329,go_sem]) rfl ⟨rfl,eA⟩
def xB(w:X)(x z:Int)(a:Bd 1000000 x)(b:Bd 1000000 z):Calls Tryz.prog 330 #[J #[O Y x,O Y z]] w fun e c=>e=.returned (J #[O Y z,O Y (-x)])/\Ba w c:=by obtain⟨d,f⟩:=a;obtain⟨g,i⟩:=b;have j:IntKind.i64.wrap (-x) = -x:=iW _ ⟨by omega,by omega⟩;have k:IntKind.i64.wrap (-z) = -z:=iW _ ⟨by omega,by omega⟩;go_in;go_wp2;exact bR (v:=J #[O Y z,O Y (-x)]) (by simp[results,Tryz.results330,go_sem]) rfl ⟨rfl,eA⟩
def og(n:Int):Bool:=decide (n < -100000) || decide (100000<n)
def Tm(w:X)(n:Int):Calls Tryz.prog 92 #[O Y n] w fun e b=>e=.returned (M (og n))/\Ba w b:=by
 unfold og;by_cases h:n < -100000
 ·have a:decide (n < -100000)=true:=by simpa using h
  go_in;go_wp2;go_ret;exact⟨by simp[a],eA⟩
 ·have a:decide (n < -100000)=false:=by simpa using h
  go_in;go_wp2;go_ret;exact⟨by simp[a],eA⟩
def JC(w:X)(n:Int):Calls Tryz.prog 92 #[O Y n] w fun e b=>e=.returned (M (og n))/\b=w:=by
 unfold og;by_cases h:n < -100000
 ·have a:decide (n < -100000)=true:=by simpa using h
  go_in;go_wp2;go_ret;exact⟨by simp[a],rfl⟩
 ·have a:decide (n < -100000)=false:=by simpa using h
  go_in;go_wp2;go_ret;exact⟨by simp[a],rfl⟩
def vM(w:X)(v:N)(ps:LP)(x z:Int)(h:Ja w v ps):Calls Tryz.prog 238 #[v,J #[O Y x,O Y z]] w fun e w'=>e=.returned (O Y (Pe (fun p=>(x,z)==p) ps))/\Ba w w':=by
 obtain⟨a,c,rfl⟩:=h.form;obtain⟨n,hn⟩:=gX ps.length;rw[hn]at h ⊢;have K:=h.le;unfold maxLen at K;have ab:n<=9223372036854775807:=oM;obtain⟨F,hF⟩:∃F:Int×Int->Bool,F=fun p=>(x,z)==p:=⟨_,rfl⟩;rw[<-hF];have S:=Aa hF;have f:=Aa hn;clear hn K hF;go_in;go_wp2;go_loopg [8] n (fun g t8 W=>sF w F ps g t8 W/\W.cell? ⟨w.heap.size,0,V⟩=Z (O Y x)/\W.cell? ⟨w.heap.size,1,V⟩=Z (O Y z))
 case atStart=>exact⟨⟨0,by omega,rfl,by rw[f.o];rfl,eA,fun j y u=>by omega⟩,by go_simp,by go_simp⟩
 case round =>
  obtain⟨⟨i,hi,rfl,rfl,hx,l⟩,k0,k1⟩:=hrel;rw[f.o]at hi;have d:=Aa l;clear l;by_cases aa:i<n
  ·obtain⟨q,hq⟩:∃q,ps[i]?=Z q:=⟨ps[i]'(by rw[f.o];omega),by simp[f.o,aa]⟩;obtain⟨P,Q⟩:=q;obtain⟨b,o,rfl,hb,d0,d1⟩:=(h.f hx).at' hq;have T:=Aa hq;clear hq;have p1:(0:Int)<=(i:Int):=oM;have p2:(i:Int)<(n:Int):=oM;by_cases m:x=P
   ·(have f1:(x==P)=true:=by simpa using m);by_cases s:z=Q
    ·(have f2:(z==Q)=true:=by simpa using s);have e:Pe F ps=(i:Int):=ku T.o (by rw[S.o];simp[m,s]) d.o;have E:=Aa e;clear e m s;go_wp2;go_quiet (fail);go_wp2;go_ret;exact⟨by rw[E.o];rfl,eA⟩
    ·(have f2:(z==Q)=false:=by simpa using s);(have t:F (P,Q)=false:=by rw[S.o];simp[s]);have R:=Aa t;clear m s t;go_wp2;go_quiet (fail);go_wp2;go_roundg (n-(i+1))
     case measure=>have:=f.o;omega
     case rel =>
      refine⟨⟨i+1,by have:=f.o;omega,by go_num,by rw[f.o],eA,fun j y u k=>?_⟩,by go_simp,by go_simp⟩;by_cases r:j=i
      ·subst r;rw[T.o]at k;cases k;exact R.o
      ·exact d.o j y oM k
   ·(have f1:(x==P)=false:=by simpa using m);(have t:F (P,Q)=false:=by rw[S.o];simp[m]);have R:=Aa t;clear m t;go_wp2;go_quiet (fail);go_wp2;go_roundg (n-(i+1))
    case measure=>have:=f.o;omega
    case rel =>
     refine⟨⟨i+1,by have:=f.o;omega,by go_num,by rw[f.o],eA,fun j y u k=>?_⟩,by go_simp,by go_simp⟩;by_cases r:j=i
     ·subst r;rw[T.o]at k;cases k;exact R.o
     ·exact d.o j y oM k
  ·obtain rfl:i=n:=oM;have e:Pe F ps = -1:=lu (fun j y u k=>d.o j y (by rw[f.o]at u;exact u) k);have E:=Aa e;clear e;go_wp2;go_ret;exact⟨by rw[E.o];rfl,hx⟩
