import Derived.Test.YtjnjpagegkcgfaaGreatDoorCobA15
set_option maxRecDepth 1000000
set_option maxHeartbeats 16000000
set_option linter.all false
open Go.Value renaming slice->O,bool->Z,agg->E,int->C,pointer->H
open Option renaming none->Y,some->N
open Go renaming World->X,Value->I,Addr->D
open Go.Obj renaming cells->J
open Go.IntKind renaming i64->F
namespace Go.Proofs.YtjnjpagegkcgfaaGreatDoor.Cop
section
open Go.RowKit Go.Shelf
def pD(w:X)(d f:I)(b:Int)(o:b<0)(g:∃a n c,d=O a n c)(i:∃a n c,f=O a n c):Calls Tryz.prog 76 #[E #[d,f],C F b] w fun e j=>e=.returned d/\Ba w j:=by obtain⟨k,m,l,rfl⟩:=g;obtain⟨p,q,sc,rfl⟩:=i;go_in;go_wp2;go_ret;exact⟨rfl,eA⟩
def WC(w:X)(l m:I)(ps:List Pl)(i:Nat)(p:Pl)(x:∃a n c,l=O a n c)(d:Sb w m ps)(j:ps[i]?=N p):Calls Tryz.prog 76 #[E #[l,m],C F i] w fun e q=>∃v,e=.returned v/\Ja q v (Pb p)/\Ba w q:=by obtain⟨S,W,T,rfl⟩:=x;obtain⟨sa,n,sc,rfl⟩:=La d;have z:=d.len;have g:=d.le;obtain⟨b,o,s,vl,vu,rfl,hb,t,u,f,k⟩:=d.at' j;obtain⟨K,Q,P,rfl⟩:=La f;have R:=k 11 (O K Q P) rfl;have y:=(lS.1 j).1;have p1:(0:Int)<=(i:Int):=oM;have p2:(i:Int)<(n:Int):=oM;have p3:i<n:=oM;have p4:¬(i:Int)<0:=oM;have r:=Aa f;clear d j k t u f z g y;go_in;go_wp2;go_ret;exact⟨_,rfl,r.o.f eA,eA⟩
def Vb(n:Nat)(i pin:Int):Bool:=decide (i<0) || (decide ((n:Int)<=i) || (decide (pin<0) || decide (50<pin)))
def Et(w:X)(g:I)(k:Option D)(n sc:Nat)(i pin:Int)(j:∃a n c,g=O a n c):Calls Tryz.prog 71 #[E #[g,O k n sc],C F i,C F pin] w fun e l=>e=.returned (Z (Vb n i pin))/\Ba w l:=by
 obtain⟨m,p,o,rfl⟩:=j;by_cases b:i<0
 ·have e:Vb n i pin=true:=by unfold Vb;simp[b]
  rw[e];go_in;go_wp2;go_ret;exact⟨rfl,eA⟩
 by_cases d:(n:Int)<=i
 ·have e:Vb n i pin=true:=by unfold Vb;simp[d]
  rw[e];go_in;go_wp2;go_ret;exact⟨rfl,eA⟩
 by_cases f:pin<0
 ·have e:Vb n i pin=true:=by unfold Vb;simp[f]
  rw[e];go_in;go_wp2;go_ret;exact⟨rfl,eA⟩
 ·have e:Vb n i pin=decide (50<pin):=by unfold Vb;rw[decide_eq_false b,decide_eq_false d,decide_eq_false f];rfl
  rw[e];go_in;go_wp2;go_ret;exact⟨rfl,eA⟩
def ML(w:X)(o a:Obj):((w.alloc o).alloc a).heap[w.heap.size+1]?=N a:=Ec _ _ _ sM
def jl(w:X)(v:I)(x z:Rat):Prop:=∃a m c s a2 m2 c2 b n k t b2 n2 k2,v=E #[O a m c,Z s,O a2 m2 c2,O b n k,Z t,O b2 n2 k2]/\Ab w (E #[O a m c,Z s,O a2 m2 c2]) x/\Ab w (E #[O b n k,Z t,O b2 n2 k2]) z
def jl.ext{w w':X}{v:I}{x z:Rat}(h:jl w v x z)(k:Ba w w'):jl w' v x z:=by obtain⟨a,m,c,s,d,p,f,b,n,l,t,e,q,o,g,i,j⟩:=h;exact⟨a,m,c,s,d,p,f,b,n,l,t,e,q,o,g,i.ext k,j.ext k⟩
def Sw(w:X)(vx:I)(x:Rat)(p:Pl)(m:Nat)(s vl vu:I)(y:Ab w vx x)(hb:Rb 1000 x)(j:w.heap[m]?=N (J (Je p s vl vu) 128 (0,0)))(hl:Ja w vl (Ea p))(ab:mc (Ea p)):Calls Tryz.prog 144 #[vx,H (N ⟨m,0,Y⟩)] w fun e w'=>∃v,e=.returned v/\jl w' v x (Yd (Ea p) x)/\Ba w w':=by
 have HA:=Aa (fun W (hW:Ba w W)=>zv W vl vx (Ea p) x (hl.f hW) ab (y.ext hW) hb);obtain⟨P,R,Q,S,d,g,f,rfl⟩:=y.form;obtain⟨la,ln,lc,rfl⟩:=La hl;have ad:=Ca j (i:=10) (u:=O la ln lc) rfl;have zb:=Gb j;have ae:m<w.heap.size+1:=oM;have af:m<w.heap.size+1+1:=oM;obtain⟨q,t⟩:=gX (Yd (Ea p) x);rw[t]at HA ⊢;have Hx:=Aa y;clear hl j y t;go_in;go_wp2;refine Kc [(⟨w.heap.size,0,Y⟩,O P R Q),(⟨w.heap.size,1,Y⟩,Z S),(⟨w.heap.size,2,Y⟩,O d g f),(⟨m,10,Y⟩,O la ln lc)] cA fun c=>?_;refine sN 0 ?_
 iterate 4 refine xb ?_
 refine oN ?_;refine Ub (i:=4) (HA.o _ eA) ?_;rintro e z ⟨v3,rfl,k,l⟩;obtain⟨a3,m3,c3,s3,b3,n3,k3,rfl⟩:=k.form;refine⟨_,rfl,(cE c l),fun c=>?_⟩;refine Db (i:=5) ?_;have b:=l.e (ML w (J #[O P R Q,Z S,O d g f] 63) (J #[O Y 0 0,Z false,O Y 0 0,O Y 0 0,Z false,O Y 0 0] 77));have k0:=Ca b (i:=0) (u:=O Y 0 0) rfl;have k1:=Ca b (i:=1) (u:=Z false) rfl;have k2:=Ca b (i:=2) (u:=O Y 0 0) rfl;have ac:=Ca b (i:=3) (u:=O Y 0 0) rfl;have k4:=Ca b (i:=4) (u:=Z false) rfl;have k5:=Ca b (i:=5) (u:=O Y 0 0) rfl;have kf:=Ua b;have o:Ba w z:=((((eR w).alloc _).alloc _).drew).trans l;have a:=Aa (show ∀q∈[((⟨w.heap.size,0,Y⟩:D),Value.slice P R Q),(⟨w.heap.size,1,Y⟩,Z S),(⟨w.heap.size,2,Y⟩,O d g f),(⟨m,10,Y⟩,O la ln lc)],w.heap.size+1≠q.1.block from fun q t h=>by
  simp at t;rcases t with rfl|rfl|rfl|rfl<;>(dsimp only at h;omega))
 have T:=Aa b;have n:=Aa o;have aa:=Aa k;clear b o k;refine Ld (i:=6) fun K hK=>?_;go_simp;refine kO hK (Da.set (p:=⟨w.heap.size+1,5,Y⟩) (Da.set (p:=⟨w.heap.size+1,4,Y⟩) (Da.set (p:=⟨w.heap.size+1,3,Y⟩) (Da.set (p:=⟨w.heap.size+1,2,Y⟩) (Da.set (p:=⟨w.heap.size+1,1,Y⟩) (Da.set (p:=⟨w.heap.size+1,0,Y⟩) c a.o _) a.o _) a.o _) a.o _) a.o _) a.o _) (fun c=>?_);clear hK K;refine Wb ?_;go_wp2;have n0:ld 2 z (w.heap.size+1):=by intro cs fr e;rw[T.o]at e;cases e
 have r:∀(u0 u1 u2 u3 u4 u5:I),Ia 2 z ((((((z.setCell ⟨w.heap.size+1,0,Y⟩ u0).setCell ⟨w.heap.size+1,1,Y⟩ u1).setCell ⟨w.heap.size+1,2,Y⟩ u2).setCell ⟨w.heap.size+1,3,Y⟩ u3).setCell ⟨w.heap.size+1,4,Y⟩ u4).setCell ⟨w.heap.size+1,5,Y⟩ u5):=fun u0 u1 u2 u3 u4 u5=>by
  repeat(first|with_reducible exact Ia.refl _ _|(with_reducible refine Ia.x ?_ ?_ _)|with_reducible exact n0|with_reducible refine ld.set ?_ _ _)
 refine bR (v:=E #[O P R Q,Z S,O d g f,O a3 m3 c3,Z s3,O b3 n3 k3]) (by simp[results,Tryz.results144,go_sem,k0,k1,k2,ac,k4,k5,kf]) rfl ⟨_,rfl,⟨_,_,_,_,_,_,_,_,_,_,_,_,_,_,rfl,(Hx.o.ext n.o).keep (r _ _ _ _ _ _),aa.o.keep (r _ _ _ _ _ _)⟩,?_⟩
 repeat(first|with_reducible exact n.o|(with_reducible refine Ba.set ?_ dO _))
end
section
open Go.RowKit Go.Shelf
attribute [local go_sem] Oper.semAt_some
def ue(o:Rat×Rat)(x:Rat):Rat×Rat:=(Nd (-1) [o.1,x],Nd 1 [o.2,x])
def Qb(f:Rat->Rat)(o:Rat×Rat)(x:Rat):Rat×Rat:=if (f x).num.sign<=0 then ue o x else o
def Td(f:Rat->Rat)(y x:Rat):Rat:=y+f y/(f y-f x)*(x-y)
def je(f:Rat->Rat)(o:Rat×Rat)(y x:Rat):Rat×Rat:=if (f x).num.sign*(f y).num.sign<0 then ue o (Td f y x)else o
def Cb(f:Rat->Rat)(qs:List Rat)(o:Rat×Rat):Nat->Rat×Rat
 | 0=>o
 | i+1=>if i=0 then Qb f (Cb f qs o i) (qs.getD i 0)else je f (Qb f (Cb f qs o i) (qs.getD i 0)) (qs.getD (i-1) 0) (qs.getD i 0)
def Ib(s:Sp)(pin:Int)(x:Rat):Rat:=Tb s x-(pin:Rat)
def pd(s:Sp)(pin:Int):Bool:=decide ((Ma s).2.num.sign<0) || decide (0<Eb (Ma s).2 (pin:Rat))
def Ac(s:Sp)(pin:Int):Option (Rat×Rat):=
 if pd s pin=true then Y else N (Cb (Ib s pin) (Jb s) ((Ma s).1,(Ma s).1) (Jb s).length)
def Rb.up{j k:Nat}{q:Rat}(h:Rb j q)(a:j<=k):Rb k q:=by exact⟨h.1.mono a,h.2.mono a⟩
def pu{P:Rat->Prop}(way:Int){p q:Rat}(a:P p)(b:P q):P (Nd way [p,q]):=by show P (Vd way p q);rcases IC way p q with e|e<;>rw[e]<;>assumption
def Rb.wid{k:Nat}{o:Rat×Rat}{x:Rat}(h:Rb k o.1/\Rb k o.2)(a:Rb k x):Rb k (ue o x).1/\Rb k (ue o x).2:=⟨pu _ h.1 a,pu _ h.2 a⟩
def Rb.pin_g{s:Sp}{pin:Int}{x:Rat}(b:Rb 1 x)(h:Gg s)(a:Bd 104000 pin):Rb 47 (Ib s pin x):=
 (Rb.gap b h).sub (Rb.int (by unfold Bd at a;unfold Lm;have c:(B:Int) ^ 23 ≥ 104001:=dM;omega) dM)
def Rb.cross{f:Rat->Rat}{y x:Rat}(hy:Rb 1 y)(d:Rb 1 x)(a:Rb 47 (f y))(c:Rb 47 (f x)):Rb 291 (Td f y x):=by have b:Rb (47+(2*47+1)+(2*1+1)) (f y/(f y-f x)*(x-y)):=(a.div (a.sub c) dM).mul (d.sub hy);exact(hy.up (by decide:1<=145)).add b
def Rb.reach_n{f:Rat->Rat}{qs:List Rat}{o:Rat×Rat}(j:Rb 300 o.1/\Rb 300 o.2)(d:∀q∈qs,Rb 1 q)(g:∀q∈qs,Rb 47 (f q)):∀n,n<=qs.length->Rb 300 (Cb f qs o n).1/\Rb 300 (Cb f qs o n).2:=by
 intro n;induction n with
 | zero=>intro _;exact j
 | succ i k =>
  intro l;have e:=k oM;have c:qs.getD i 0∈qs:=by rw[gD,gE oM];exact List.getElem_mem _
  have b:Rb 300 (Qb f (Cb f qs o i) (qs.getD i 0)).1/\Rb 300 (Qb f (Cb f qs o i) (qs.getD i 0)).2:=by
   unfold Qb;split
   ·exact Rb.wid e ((d _ c).up dM)
   ·exact e
  unfold Cb;split
  ·exact b
  ·have a:qs.getD (i-1) 0∈qs:=by rw[gD,gE oM];exact List.getElem_mem _
   unfold je;split
   ·exact Rb.wid b ((Rb.cross (d _ a) (d _ c) (g _ a) (g _ c)).up dM)
   ·exact b
def Ef.setOther{w:X}{base:Nat}{v:I}{qs:List Rat}(h:Ef w base v qs){p:D}(l:p.block<base)(j:ld 2 w p.block)(u:I):Ef (w.setCell p u) base v qs:=by obtain⟨b,a,d,f⟩:=h;refine⟨b,a.setOther (fun e=>?_) u,d,fun i c q g k=>Ab.keep (f i c q g k) (Ia.x (Ia.refl _ _) j u)⟩;have:=(a.lt _ e).1;omega
def pj(w:X)(s:Sp)(a b c:I)(qs:List Rat)(o:Rat×Rat)(W:X):Prop:=
 Ba w W/\w.heap.size+1+1+1<=W.heap.size/\W.heap[w.heap.size]?=N (J #[a,b,C F s.lo,C F s.hi] 138 (0,0))/\
  RB W (w.heap.size+1) o.1/\RB W (w.heap.size+1+1) o.2/\Ef W (w.heap.size+1+1+1) c qs
def pj.ext{w:X}{s:Sp}{a b c:I}{qs:List Rat}{o:Rat×Rat}{W W':X}(h:pj w s a b c qs o W)(k:Ba W W'):pj w s a b c qs o W':=
 ⟨h.1.trans k,nT h.2.1 k.size,k.e h.2.2.1,h.2.2.2.1.ext k,h.2.2.2.2.1.ext k,h.2.2.2.2.2.ext k⟩
def ol(W:X){b:Nat}(y:b=W.heap.size){a g e j:Option D}{m c o c2 n k r l:Nat}{s t:Bool}{p q:Rat}(v:Ab W (E #[O a m c,Z s,O g o c2]) p)(w:Ab W (E #[O e n k,Z t,O j r l]) q):Kh (W.alloc (J #[O a m c,Z s,O g o c2,O e n k,Z t,O j r l] 63)) (O (N ⟨b,0,Y⟩) 2 2) [p,q]:=by
 subst y;have u:Ba W (W.alloc (J #[O a m c,Z s,O g o c2,O e n k,Z t,O j r l] 63)):=(eR W).alloc _;refine⟨[[O a m c,Z s,O g o c2],[O e n k,Z t,O j r l]],rfl,by simp,⟨rfl,_,_,rfl,nE _,by unfold maxLen;decide,.inr ⟨_,0,_,_,rfl,aN W _,fun i x h=>by simpa using h⟩⟩,fun i z x d f=>?_⟩
 match i,d,f with
 | 0,d,f=>cases d;cases f;exact v.ext u
 | 1,d,f=>cases d;cases f;exact w.ext u
 | i+2,d,f=>simp at d
def pj.put2{w:X}{s:Sp}{v1 v2 vq:I}{qs:List Rat}{o:Rat×Rat}{W:X}(h:pj w s v1 v2 vq qs o W){a l e x:Option D}{m c Q c2 n k R K:Nat}{S t:Bool}{p q:Rat}(y:Ab W (E #[O a m c,Z S,O l Q c2]) p)(z:Ab W (E #[O e n k,Z t,O x R K]) q){j g:X}(d:((W.setCell ⟨w.heap.size+1,0,Y⟩ (O a m c)).setCell ⟨w.heap.size+1,1,Y⟩ (Z S)).setCell ⟨w.heap.size+1,2,Y⟩ (O l Q c2)=j)(f:((j.setCell ⟨w.heap.size+1+1,0,Y⟩ (O e n k)).setCell ⟨w.heap.size+1+1,1,Y⟩ (Z t)).setCell ⟨w.heap.size+1+1,2,Y⟩ (O x R K)=g):pj w s v1 v2 vq qs (p,q) g/\g.heap.size=W.heap.size/\(∀b r,w.heap.size+1+1<b->RB W b r->RB g b r):=by
 obtain⟨h1,h2,h3,h4,h5,h6⟩:=h;obtain⟨q1,q2,q3,q4,q5,q6⟩:=RB.copy2 h4 h5 oM y z d f;have i:=h4.not;have N2:=h5.not;refine⟨⟨q6 w h1 oM oM,by omega,?_,q1,q2,?_⟩,q5,fun b r hb=>q3 b r oM oM⟩
 ·rw[<-f,<-d]
  repeat rw[bS _ _ _ _ dO]
  exact h3
 ·have u:w.heap.size+1<w.heap.size+1+1+1:=oM;have v:w.heap.size+1+1<w.heap.size+1+1+1:=oM;have T:=((h6.setOther (p:=⟨w.heap.size+1,0,Y⟩) u i (O a m c)).setOther (p:=⟨w.heap.size+1,1,Y⟩) u (i.set _ _) (Z S)).setOther (p:=⟨w.heap.size+1,2,Y⟩) u ((i.set _ _).set _ _) (O l Q c2);rw[d]at T;have P:ld 2 j (w.heap.size+1+1):=by rw[<-d];exact((N2.set _ _).set _ _).set _ _
  have g2:=((T.setOther (p:=⟨w.heap.size+1+1,0,Y⟩) v P (O e n k)).setOther (p:=⟨w.heap.size+1+1,1,Y⟩) v (P.set _ _) (Z t)).setOther (p:=⟨w.heap.size+1+1,2,Y⟩) v ((P.set _ _).set _ _) (O x R K);rw[f]at g2;exact g2
end
section
open Go.RowKit Go.Shelf Go.Sort
def JM{β:Type}[Inhabited β]{lt:β->β->Bool}(hO:SWO lt)(d:Array β)(l:Nat):(pdq lt d 0 d.size l true true).toList.Pairwise fun x y=>lt y x=false:=by obtain⟨⟨g,_,_⟩,f⟩:=pdq_sorts lt hO d 0 d.size l true true (Nat.zero_le _) (nE _) (Or.inl rfl);rw[List.pairwise_iff_getElem];intro i j c e a;simp at c e;have b:=f i j (Nat.zero_le _) a oM;rw[getElem!_pos _ i c,getElem!_pos _ j e]at b;simpa using b
def Yw{ps:LP}(h:∀x∈ps,BP x):(Ye ps).Pairwise fun x y=>x.1<=y.1:=by unfold Ye ni;rw[dif_pos h];rw[List.pairwise_map];have b:=@JM {x // BP x} ⟨vy⟩ _ Ym (ps.attachWith BP h).toArray (Lib.bitLen ps.length);rw[show (ps.attachWith BP h).toArray.size=ps.length by simp]at b;refine b.imp fun {x y} a=>?_;rw[Lu]at a;simpa using a
def UE{α:Type}[DecidableEq α]:∀(a:α)(r:List α),∃t,Na (a::r)=a::t
 | a,[]=>⟨[],rfl⟩
 | a,b::r=>by
  by_cases h:a=b
  ·obtain⟨t,e⟩:=UE b r;exact⟨t,by rw[Na,if_pos h,e,h]⟩
  ·exact⟨Na (b::r),by rw[Na,if_neg h]⟩
def ph.cons{a b:Int×Int}{r:LP}(d:a.1<=b.1)(f:a≠b)(h:ph (b::r)):ph (a::b::r):=by
 intro e c;unfold Qe at c;rcases List.mem_cons.1 c with rfl|c
 ·exact⟨d,f⟩
 ·exact h e c
def GE:∀(l:LP),l.Pairwise (fun x y=>x.1<=y.1)->ph (Na l)
 | [],_=>by intro e f;simp[Na,Qe]at f
 | [a],_=>by intro e f;simp[Na,Qe]at f
 | a::b::r,h=>by
  have d:=GE (b::r) (List.pairwise_cons.1 h).2;by_cases c:a=b
  ·rw[Na,if_pos c];exact d
  ·rw[Na,if_neg c];obtain⟨t,e⟩:=UE b r;rw[e]at d ⊢;exact ph.cons ((List.pairwise_cons.1 h).1 b List.mem_cons_self) c d
def WM{k:Int}{a:LP}(c:xg k a)(b:k<=1000000):ph (kd a):=
 GE _ (Yw fun x d=>by
  have:=c x d;unfold BP;exact⟨this.1.mono b,this.2.mono b⟩)
def nv{p:Pl}(h:Fa p=true):ph (Pb p):=by obtain⟨a,c,yj⟩:=To h;have b:=yq a (nE _);exact WM b.2 dM
def nu{g:LP}(h:Za g=true):ph g:=by
 unfold Za at h;simp only[Bool.and_eq_true,List.all_eq_true,List.mem_range]at h;intro e d;unfold Qe at d;obtain⟨i,f,rfl⟩:=List.getElem_of_mem d;have c:i+1<g.length:=by rw[List.length_zip,List.length_tail]at f;omega
 have a:=h.2 (i+1) c;unfold Gf at a;simp only[Bool.and_eq_true,Bool.or_eq_true,decide_eq_true_eq,beq_iff_eq,Nat.add_one_ne_zero,false_or,Nat.add_sub_cancel]at a;have b:=a.2.2;rw[gD,gD,gE oM,gE c]at b;simp only[Option.getD_some]at b;have j:(g.zip g.tail)[i]'f=(g[i]' oM,g[i+1]'c):=sM;rw[j];exact⟨by dsimp only;omega,fun e=>by dsimp only at e;rw[e]at b;omega⟩
end
section
open Go.RowKit Go.Shelf
attribute [local go_sem] Oper.semAt_some
def Ck(w:X)(o:Option (Rat×Rat))(e:Ending)(w':X):Prop:=Ba w w'/\∃r1 r2,Ab w' r1 (o.getD (0,0)).1/\Ab w' r2 (o.getD (0,0)).2/\e=.returned (.tuple #[r1,r2,Z o.isSome])
def Yu{k:Nat}{pin:Int}(h:Bd 104000 pin)(a:1<=k):Rb k (pin:Rat):=(Rg h).up a
def qK(w:X)(v1 v2:I)(s:Sp)(pin:Int)(h1:Ja w v1 s.over)(h2:Ja w v2 s.under)(T:Gg s)(hp:Bd 104000 pin)(n:pd s pin=true):Calls Tryz.prog 143 #[Hi s v1 v2,C F pin] w (Ck w (Ac s pin)):=by
 have HS:=Aa (fun(W:X)(hW:Ba w W)=>Wt W v1 v2 s (h1.f hW) (h2.f hW) T);obtain⟨a1,m1,rfl⟩:=h1.form;obtain⟨a2,m2,rfl⟩:=h2.form;obtain⟨n1,f1⟩:=gX s.over.length;obtain⟨n2,f2⟩:=gX s.under.length;obtain⟨lo,an⟩:=gX s.lo;obtain⟨hi,am⟩:=gX s.hi;have al:=Aa (show Rb 23 (Ma s).2 by obtain⟨j1,j2⟩:=Nk (Tb s) (pl s);unfold Ma;rw[j2];exact Rb.gap (Bh T _ j1) T);have Hp:=Aa hp;have ay:-9223372036854775808<=pin:=by unfold Bd at hp;omega
 have az:pin<=9223372036854775807:=by unfold Bd at hp;omega
 have HC:=Aa (fun(W:X)(va vb:I)(ha:Ab W va (Ma s).2)(hb:Ab W vb (pin:Rat))=>Qj W va vb _ _ ha hb (Ug al.o oM) (Ug (Yu (k:=1) Hp.o oM) oM));have hR:Ac s pin=Y:=by unfold Ac;rw[if_pos n]
 rw[hR];unfold pd at n;obtain⟨q1,ap⟩:=gX ((Ma s).1);obtain⟨q2,ae⟩:=gX ((Ma s).2);unfold Hi at HS ⊢;rw[ae]at n HC al;rw[ap,ae]at HS;simp only[f1,f2,an,am]at HS ⊢;clear h1 h2 T f1 f2 an am hR ap ae hp;go_in;go_wp2_with(((go_at_call 59;refine cM (HS.o _ eA) ?_;rintro e S ⟨r1,r2,rfl,aq,Q,R⟩;obtain⟨a4,m4,c4,s4,b4,n4,k4,rfl⟩:=aq.form;obtain⟨a5,m5,c5,s5,b5,n5,k5,rfl⟩:=Q.form;obtain⟨⟨aw,ax⟩,aA,aB,aC⟩:=Yb w R)));obtain⟨g,b⟩:=gX (((S.alloc (J #[O a4 m4 c4,Z s4,O b4 n4 k4] 63)).alloc (J #[O a5 m5 c5,Z s5,O b5 n5 k5] 63)));have f:Ba S g:=by rw[<-b];exact((eR _).alloc _).alloc _
 have ao:Ba w g:=(((((eR w).alloc _).alloc _).alloc _).trans R).trans f;have g1:RB g S.heap.size q1:=by rw[<-b];exact(RB.new aq rfl).ext ((eR _).alloc _)
 have g2:RB g (S.heap.size+1) q2:=by rw[<-b];exact RB.new (Q.ext ((eR _).alloc _)) sM
 have g3:RB g (w.heap.size+1) 0:=(((RB.new (Ab.zero _) sM).ext ((eR _).alloc _)).ext R).ext f;have g4:RB g (w.heap.size+1+1) 0:=((RB.new (Ab.zero _) sM).ext R).ext f;have zW:S.heap.size+1<g.heap.size:=by rw[<-b];simp
 have aD:=Ca (show g.heap[S.heap.size+1]?=N (J #[O a5 m5 c5,Z s5,O b5 n5 k5] 63 (0,0)) by rw[<-b];exact Ec _ _ _ sM) (i:=0) (u:=O a5 m5 c5) rfl;have aE:=Ca (show g.heap[S.heap.size+1]?=N (J #[O a5 m5 c5,Z s5,O b5 n5 k5] 63 (0,0)) by rw[<-b];exact Ec _ _ _ sM) (i:=1) (u:=Z s5) rfl;have aF:=Ca (show g.heap[S.heap.size+1]?=N (J #[O a5 m5 c5,Z s5,O b5 n5 k5] 63 (0,0)) by rw[<-b];exact Ec _ _ _ sM) (i:=2) (u:=O b5 n5 k5) rfl;have HX:=Aa f;have ak:=Aa ao;rw[b];obtain⟨s1,au⟩:=gX S.heap.size;simp only[au]at *;clear b aw ax R f ao HS au;obtain⟨k,hk⟩:=gX q2.num.sign;have aj:=Aa (fun(W:X)(v:I)(h:Ab W v q2)=>hk▸jr W v q2 h);rw[hk]at n;clear hk;by_cases aa:k<0
 ·have hd:decide (k<0)=true:=by simp[aa]
  refine Kc [(⟨s1+1,0,Y⟩,O a5 m5 c5),(⟨s1+1,1,Y⟩,Z s5),(⟨s1+1,2,Y⟩,O b5 n5 k5)] cA fun a=>?_;refine Db (i:=0) ?_;refine Ub (i:=1) (aj.o _ _ (Q.ext (Ba.trans HX.o eA))) ?_;rintro e w3 ⟨rfl,t⟩;refine⟨_,rfl,(cE a t),fun a=>?_⟩;refine sN 2 ?_
  iterate 2 refine xb ?_
  iterate 5 refine Ee ?_
  refine xb ?_;refine oN ?_;refine Wb ?_;go_wp2;have X3:Ba g w3:=((eR g).drew).trans t;have x:=g3.ext X3;have y:=g4.ext X3;obtain⟨pa,pm,p,ps,o,r,q,p0,p1,p2,ag,ah,ai,pz,z⟩:=x.rd;obtain⟨ea,em,ec,es,j,m,l,e0,e1,e2,ab,ac,ad,ez,P⟩:=y.rd;refine Nh (fun i=>decide (2<i)) (Da [(⟨w.heap.size+1,0,Y⟩,O pa pm p),(⟨w.heap.size+1,1,Y⟩,Z ps),(⟨w.heap.size+1,2,Y⟩,O o r q),(⟨w.heap.size+1+1,0,Y⟩,O ea em ec),(⟨w.heap.size+1+1,1,Y⟩,Z es),(⟨w.heap.size+1+1,2,Y⟩,O j m l)]) kM ?_ (fun a=>?_)
  ·exact cA
  refine sN 0 ?_
  iterate 2 refine Yh ?_
  refine oN ?_;refine Jc (i:=2) fun K d=>?_;go_simp;refine kO d (fun _=>?_) (fun a=>?_)
  ·exact cA
  clear d K;have a:=a rfl;refine Jc (i:=3) fun K d=>?_;go_simp;refine kO d (fun h=>nomatch h) (fun a=>?_);clear d K;refine Jc (i:=4) fun K d=>?_;go_simp;refine kO d (fun h=>nomatch h) (fun a=>?_);clear d K;refine Kb kM ?_ _;go_wp2;refine bR (v:=.tuple #[E #[O pa pm p,Z ps,O o r q],E #[O ea em ec,Z es,O j m l],Z false]) (by simp[results,Tryz.results143,go_sem,p0,p1,p2,ag,ah,ai,e0,e1,e2,ab,ac,ad]) rfl ?_;obtain⟨P1,P2,P3,P4,P5,P6⟩:=RB.copy2 x y oM z P rfl rfl;refine⟨(P6 w (ak.o.trans X3) oM oM).drew,E #[O pa pm p,Z ps,O o r q],E #[O ea em ec,Z es,O j m l],?_,?_,rfl⟩
  ·exact(z.keep P4).ext (eR _).drew
  ·exact(P.keep P4).ext (eR _).drew
 ·have hd:decide (k<0)=false:=by simp[aa]
  rw[hd,Bool.false_or]at n;obtain⟨c,hc⟩:=gX (Eb q2 (pin:Rat));rw[hc]at n HC;clear hc;have aG:0<c:=by simpa using n
  refine Kc [(⟨s1+1,0,Y⟩,O a5 m5 c5),(⟨s1+1,1,Y⟩,Z s5),(⟨s1+1,2,Y⟩,O b5 n5 k5)] cA fun a=>?_;have E0:Ba S g.drew:=HX.o.trans (eR g).drew;refine Db (i:=0) ?_;refine Ub (i:=1) (aj.o _ _ (Q.ext E0)) ?_;rintro e w3 ⟨rfl,t⟩;refine⟨_,rfl,(cE a t),fun a=>?_⟩;refine sN 2 ?_
  iterate 4 refine xb ?_
  refine oN ?_;refine Ub (i:=6) (nl _ pin ay az) ?_;rintro e w4 ⟨r4,rfl,ar,af⟩;obtain⟨a6,m6,c6,s6,b6,n6,k6,rfl⟩:=ar.form;refine⟨_,rfl,(cE a af),fun a=>?_⟩;refine Ub (i:=7) (HC.o _ _ _ (Q.ext (E0.trans (t.trans af))) ar) ?_;rintro e w5 ⟨rfl,av⟩;refine⟨_,rfl,(cE a av),fun a=>?_⟩;refine sN 8 ?_
  iterate 2 refine xb ?_
  refine oN ?_;refine Wb ?_;have X3:Ba g w5:=((eR g).drew).trans (t.trans (af.trans av));have x:=g3.ext X3;have y:=g4.ext X3;go_wp2;obtain⟨pa,pm,p,ps,o,r,q,p0,p1,p2,ag,ah,ai,pz,z⟩:=x.rd;obtain⟨ea,em,ec,es,j,m,l,e0,e1,e2,ab,ac,ad,ez,P⟩:=y.rd;refine Nh (fun i=>decide (2<i)) (Da [(⟨w.heap.size+1,0,Y⟩,O pa pm p),(⟨w.heap.size+1,1,Y⟩,Z ps),(⟨w.heap.size+1,2,Y⟩,O o r q),(⟨w.heap.size+1+1,0,Y⟩,O ea em ec),(⟨w.heap.size+1+1,1,Y⟩,Z es),(⟨w.heap.size+1+1,2,Y⟩,O j m l)]) kM ?_ (fun a=>?_)
  ·exact cA
  refine sN 0 ?_
  iterate 2 refine Yh ?_
  refine oN ?_;refine Jc (i:=2) fun K d=>?_;go_simp;refine kO d (fun _=>?_) (fun a=>?_)
  ·exact cA
  clear d K;have a:=a rfl;refine Jc (i:=3) fun K d=>?_;go_simp;refine kO d (fun h=>nomatch h) (fun a=>?_);clear d K;refine Jc (i:=4) fun K d=>?_;go_simp;refine kO d (fun h=>nomatch h) (fun a=>?_);clear d K;refine Kb kM ?_ _;go_wp2;refine bR (v:=.tuple #[E #[O pa pm p,Z ps,O o r q],E #[O ea em ec,Z es,O j m l],Z false]) (by simp[results,Tryz.results143,go_sem,p0,p1,p2,ag,ah,ai,e0,e1,e2,ab,ac,ad]) rfl ?_;obtain⟨P1,P2,P3,P4,P5,P6⟩:=RB.copy2 x y oM z P rfl rfl;refine⟨(P6 w (ak.o.trans X3) oM oM).drew,E #[O pa pm p,Z ps,O o r q],E #[O ea em ec,Z es,O j m l],?_,?_,rfl⟩
  ·exact(z.keep P4).ext (eR _).drew
  ·exact(P.keep P4).ext (eR _).drew
end
section
open Go.RowKit Go.Shelf Go.Sort
def kG{x y:Int}(h:0<x)(k:x*y<=0):y<=0:=by
 by_cases a:y<=0
 ·exact a
 ·have:=Int.mul_pos h (show 0<y by omega);omega
def lG{x y:Int}(h:0<x)(k:x*y<0):y<0:=by
 by_cases a:y<0
 ·exact a
 ·have:=Int.mul_nonneg (Int.le_of_lt h) (show 0<=y by omega);omega
def NL{c g d j f i:Int}(m:0<c)(n:d<=0)(o:0<f)(k:0<c*i-g*f)(l:0<d*i-j*f):c*j-g*d<0:=by
 have e:f*(c*j-g*d)=d*(c*i-g*f)-c*(d*i-j*f):=by grind
 have a:=Int.mul_pos m l;have b:d*(c*i-g*f)<=0:=Int.mul_nonpos_of_nonpos_of_nonneg n (Int.le_of_lt k);exact lG o oM
def KC{f g c i d j:Int}(o:0<f)(m:c<0)(n:0<d)(k:0<=f*i-g*c)(l:0<=f*j-g*d):c*j-i*d<=0:=by
 have e:f*(c*j-i*d)=c*(f*j-g*d)-d*(f*i-g*c):=by grind
 have a:0<=d*(f*i-g*c):=Int.mul_nonneg (Int.le_of_lt n) k;have b:c*(f*j-g*d)<=0:=Int.mul_nonpos_of_nonpos_of_nonneg (Int.le_of_lt m) l;exact kG o oM
def jk(cs:LP)(u v:Int×Int):Prop:=Ud cs u v/\u.1<v.1
def oe(cs:LP)(q:Int×Int):Prop:=∃u v,jk cs u v/\(q=u\/q=v)
def Qf.left0{cs:LP}(h:Qf cs){u v c:Int×Int}(d:Ud cs u v)(b:c∈cs):0<=Ke u v c:=by
 by_cases a:c=u
 ·subst a;unfold Ke;grind
 ·by_cases hv:c=v
  ·subst hv;unfold Ke;grind
  ·exact Int.le_of_lt (h.left u v d c b a hv)
def oe.mem{cs:LP}{q:Int×Int}(h:oe cs q):q∈cs:=by
 obtain⟨u,v,⟨a,_⟩,rfl|rfl⟩:=h
 ·exact a.mem.1
 ·exact a.mem.2
def oe.uniq{cs:LP}(h:Qf cs){u w:Int×Int}(g:oe cs u)(c:oe cs w)(d:u.1=w.1):u=w:=by
 have f:∀{u w:Int×Int},oe cs u->oe cs w->u.1=w.1->¬u.2<w.2:=by
  intro u w g c d n;obtain⟨a,b,⟨k,j⟩,c⟩:=c;have i:=h.left0 k g.mem;unfold Ke at i;rcases c with rfl|rfl
  ·have e:(b.1-w.1)*(u.2-b.2)-(b.2-w.2)*(u.1-b.1)=(b.1-w.1)*(u.2-w.2):=by rw[d];grind
   rw[e]at i;have:=Int.mul_neg_of_pos_of_neg (show 0<b.1-w.1 by omega) (show u.2-w.2<0 by omega);omega
  ·have e:(w.1-a.1)*(u.2-w.2)-(w.2-a.2)*(u.1-w.1)=(w.1-a.1)*(u.2-w.2):=by rw[d];grind
   rw[e]at i;have:=Int.mul_neg_of_pos_of_neg (show 0<w.1-a.1 by omega) (show u.2-w.2<0 by omega);omega
 have l:=f g c d;have m:=f c g d.symm;exact Prod.ext d oM
def Ud.next{cs:LP}{a:Int×Int}(h:a∈cs)(b:2<=cs.length):∃s,Ud cs a s:=by
 obtain⟨A,B,rfl⟩:=List.append_of_mem h;cases B with
 | cons s B=>exact⟨s,.inl ⟨A,B,rfl⟩⟩
 |nil=>
  cases A with
  | nil=>simp at b
  | cons v M=>exact⟨v,.inr ⟨M,by simp⟩⟩
def oe.goes{cs:LP}(h:Qf cs){a b:Int×Int}(f:oe cs a)(n:b∈cs)(q:a.1<b.1):∃b',jk cs a b':=by
 obtain⟨u,v,⟨d,l⟩,f⟩:=f;rcases f with rfl|rfl
 ·exact⟨v,d,l⟩
 ·obtain⟨s,j⟩:=Ud.next d.mem.2 (by have:=h.three;omega);by_cases k:a.1<s.1
  ·exact⟨s,j,k⟩
  ·exfalso;have g:b≠s:=by rintro rfl;omega
   have c:b≠a:=by rintro rfl;omega
   have i:b≠u:=by rintro rfl;omega
   have m:=h.left u a d b n i c;have e:=h.left a s j b n c g;have p:=h.left0 d j.mem.2;unfold Ke at m e p;have o:(s.1-a.1)*(b.2-s.2)-(s.2-a.2)*(b.1-s.1)=(s.1-a.1)*(b.2-a.2)-(s.2-a.2)*(b.1-a.1):=by grind
   rw[o]at e;have:=NL (show 0<a.1-u.1 by omega) (show s.1-a.1<=0 by omega) (show 0<b.1-a.1 by omega) m e;omega
def oe.edge{cs:LP}(h:Qf cs){a b:Int×Int}(y:oe cs a)(l:oe cs b)(m:a.1<b.1)(r:∀q,oe cs q->¬(a.1<q.1/\q.1<b.1)):jk cs a b:=by
 obtain⟨e,i,u⟩:=y.goes h l.mem m;have f:oe cs e:=⟨a,e,⟨i,u⟩,.inr rfl⟩;by_cases o:e.1=b.1
 ·rw[<-f.uniq h l o];exact⟨i,u⟩
 ·have K:b.1<e.1:=by
   have:=r e f;omega
  exfalso;have n:b≠a:=by rintro rfl;omega
  have g:b≠e:=by rintro rfl;omega
  have s:=h.left a e i b l.mem n g;obtain⟨c,d,⟨t,z⟩,p⟩:=l;have j:=h.left0 t i.mem.1;have k:=h.left0 t i.mem.2;unfold Ke at s j k;have v:(e.1-a.1)*(b.2-e.2)-(e.2-a.2)*(b.1-e.1)=(a.1-b.1)*(e.2-b.2)-(a.2-b.2)*(e.1-b.1):=by grind
  rw[v]at s;rcases p with rfl|rfl
  ·have w:(d.1-b.1)*(a.2-d.2)-(d.2-b.2)*(a.1-d.1)=(d.1-b.1)*(a.2-b.2)-(d.2-b.2)*(a.1-b.1):=by grind
   have x:(d.1-b.1)*(e.2-d.2)-(d.2-b.2)*(e.1-d.1)=(d.1-b.1)*(e.2-b.2)-(d.2-b.2)*(e.1-b.1):=by grind
   rw[w]at j;rw[x]at k;have:=KC (show 0<d.1-b.1 by omega) (show a.1-b.1<0 by omega) (show 0<e.1-b.1 by omega) j k;omega
  ·have:=KC (show 0<b.1-c.1 by omega) (show a.1-b.1<0 by omega) (show 0<e.1-b.1 by omega) j k;omega
end
section
open Go.RowKit Go.Shelf Go.Sort Go.Lib
def Ln{l m:LP}(s:l.Perm m)(q:∀x∈l,BP x)(c:m.Pairwise fun x y=>x.1<y.1):Ye l=m:=by
 have n:=Yw q;have f:=(Qo l).trans s;refine List.Perm.eq_of_pairwise (le:=fun x y=>x.1<=y.1) ?_ n (c.imp fun h=>by omega) f;intro a b o e p r;have d:a∈m:=f.mem_iff.1 o;obtain⟨i,g,rfl⟩:=List.getElem_of_mem d;obtain⟨j,k,rfl⟩:=List.getElem_of_mem e;rw[List.pairwise_iff_getElem]at c;rcases Nat.lt_trichotomy i j with h|h|h
 ·have:=c i j g k h;omega
 ·subst h;rfl
 ·have:=c j i k g h;omega
def Vj(z:Int):List Int->List Int
 | []=>[z]
 | y::ys=>if z<=y then z::y::ys else y::Vj z ys
def rk:List Int->List Int
 | []=>[]
 | z::zs=>Vj z (rk zs)
def Cw(z:Int):∀ys,(Vj z ys).Perm (z::ys)
 | []=>List.Perm.refl _
 | y::ys=>by
  unfold Vj;split
  ·exact List.Perm.refl _
  ·exact((Cw z ys).cons y).trans (List.Perm.swap _ _ _)
def uE(z:Int):∀ys,ys.Pairwise (fun x y:Int=>x<=y)->(Vj z ys).Pairwise (fun x y:Int=>x<=y)
 | [],_=>by unfold Vj;exact List.pairwise_singleton _ _
 | y::ys,h=>by
  obtain⟨c,d⟩:=List.pairwise_cons.1 h;unfold Vj;split
  ·rename_i hz;refine List.pairwise_cons.2 ⟨fun a b=>?_,h⟩;rcases List.mem_cons.1 b with rfl|b
   ·exact hz
   ·exact Int.le_trans hz (c a b)
  ·rename_i hz;refine List.pairwise_cons.2 ⟨fun a b=>?_,uE z ys d⟩;rcases List.mem_cons.1 ((Cw z ys).mem_iff.1 b)with rfl|b
   ·omega
   ·exact c a b
def rD:∀zs,(rk zs).Perm zs
 | []=>List.Perm.refl _
 | z::zs=>(Cw z _).trans ((rD zs).cons z)
def oE:∀zs,(rk zs).Pairwise (fun x y:Int=>x<=y)
 | []=>List.Pairwise.nil
 | z::zs=>uE z _ (oE zs)
def xu:pg=rk:=by
 funext zs
 unfold pg;refine List.Perm.eq_of_pairwise (le:=fun x y:Int=>x<=y) (fun a b _ _ d e=>Int.le_antisymm d e) ?_ (oE zs) ((List.mergeSort_perm zs _).trans (rD zs).symm);have:=List.pairwise_mergeSort (le:=fun x y:Int=>decide (x<=y)) (fun a b c d e=>by simp at *;omega) (fun a b=>by simp;omega) zs;exact this.imp fun h=>by simpa using h
end
section
open Go.RowKit Go.Shelf Go.Sort
def Og(p:Int×Int):Int×Int:=(-p.1,-p.2)
def pk(p:Int×Int):Og (Og p)=p:=by unfold Og;simp
def Qf.ng{cs:LP}(h:Qf cs):Qf (cs.map Og):=
 h.map _ (fun u v c=>by unfold Ke Og;dsimp only;grind) (fun x y e=>by rw[<-pk x,e,pk])
def Ud.maps{cs:LP}(f:Int×Int->Int×Int){u v:Int×Int}(h:Ud cs u v):Ud (cs.map f) (f u) (f v):=by
 rcases h with ⟨A,B,rfl⟩|⟨M,rfl⟩
 ·exact .inl ⟨A.map f,B.map f,by simp⟩
 ·exact .inr ⟨M.map f,by simp⟩
def Ud.ng{cs:LP}{u v:Int×Int}(h:Ud (cs.map Og) u v):Ud cs (Og u) (Og v):=by
 have:=h.maps Og
 rwa [List.map_map,show Og ∘ Og=id from funext pk,List.map_id]at this
def Om(cs:LP)(u v:Int×Int):Prop:=Ud cs u v/\v.1<u.1
def oh(cs:LP)(q:Int×Int):Prop:=∃u v,Om cs u v/\(q=u\/q=v)
def Om.ng{cs:LP}{u v:Int×Int}:Om cs u v ↔ jk (cs.map Og) (Og u) (Og v):=by
 constructor
 ·rintro ⟨h,k⟩;exact⟨h.maps Og,by unfold Og;dsimp only;omega⟩
 ·rintro ⟨h,k⟩;have:=h.ng;rw[pk,pk]at this;exact⟨this,by unfold Og at k;dsimp only at k;omega⟩
def oh.ng{cs:LP}{q:Int×Int}:oh cs q ↔ oe (cs.map Og) (Og q):=by
 constructor
 ·rintro ⟨u,v,h,a⟩;exact⟨Og u,Og v,Om.ng.1 h,by rcases a with rfl|rfl<;>simp⟩
 ·rintro ⟨u,v,h,a⟩;refine⟨Og u,Og v,Om.ng.2 (by rw[pk,pk];exact h),?_⟩;rcases a with rfl|rfl
  ·exact .inl (pk q).symm
  ·exact .inr (pk q).symm
def oh.uniq{cs:LP}(h:Qf cs){u w:Int×Int}(a:oh cs u)(b:oh cs w)(c:u.1=w.1):u=w:=by have:=oe.uniq h.ng (oh.ng.1 a) (oh.ng.1 b) (by unfold Og;dsimp only;omega);rw[<-pk u,this,pk]
def oh.edge{cs:LP}(h:Qf cs){a b:Int×Int}(e:oh cs a)(g:oh cs b)(f:a.1<b.1)(c:∀q,oh cs q->¬(a.1<q.1/\q.1<b.1)):Om cs b a:=by refine Om.ng.2 (oe.edge h.ng (oh.ng.1 g) (oh.ng.1 e) (by unfold Og;dsimp only;omega) (fun q i d=>?_));refine c (Og q) (oh.ng.2 (by rw[pk];exact i)) ?_;unfold Og at d ⊢;dsimp only at d ⊢;omega
def Qn{cs:LP}(c:2<=cs.length){u v:Int×Int}:Ud cs u v ↔ ∃i,i<cs.length/\cs.getD i (0,0)=u/\cs.getD ((i+1)%cs.length) (0,0)=v:=by
 constructor
 ·rintro (⟨A,B,e⟩|⟨M,e⟩)
  ·have l:A.length+1<cs.length:=by rw[e];simp
   refine⟨A.length,by omega,?_,?_⟩
   ·rw[gD,e];simp
   ·rw[Nat.mod_eq_of_lt l,gD,e];simp
  ·have m:cs.length=M.length+2:=by rw[e];simp
   refine⟨M.length+1,by omega,?_,?_⟩
   ·rw[gD,e];simp
   ·rw[show M.length+1+1=cs.length by omega,Nat.mod_self,gD,e];simp
 ·rintro ⟨i,b,rfl,rfl⟩;have g:∀j,(hj:j<cs.length)->cs.getD j (0,0)=cs[j]:=fun j hj=>by rw[gD,gE hj];rfl
  by_cases a:i+1<cs.length
  ·rw[Nat.mod_eq_of_lt a,g i b,g (i+1) a];refine .inl ⟨cs.take i,cs.drop (i+1+1),?_⟩;rw[<-List.drop_eq_getElem_cons a,<-List.drop_eq_getElem_cons b,List.take_append_drop]
  ·have e:i+1=cs.length:=oM;rw[e,Nat.mod_self,g i b,g 0 oM]
   right
   cases cs with
   | nil=>simp at c
   | cons v r =>
    (have d:r≠[]:=by rintro rfl;simp at c);refine⟨r.dropLast,?_⟩;have k:(v::r)[i]=r.getLast d:=by
     rw[List.getLast_eq_getElem];simp only[List.length_cons]at e;obtain⟨f,rfl⟩:∃f,i=f+1:=⟨i-1,by have:=List.length_pos_iff.2 d;omega⟩;simp only[List.getElem_cons_succ]
     congr 1
     omega
    rw[k];simp[List.dropLast_concat_getLast]
def Qw{cs:LP}(c:2<=cs.length){q:Int×Int}:q∈Tc cs cs.length ↔ oe cs q:=by
 unfold Tc oe jk;rw[List.mem_flatMap];constructor
 ·rintro ⟨i,b,a⟩;rw[List.mem_range]at b;unfold ze at a;split at a
  ·rename_i hx;refine⟨_,_,⟨(Qn c).2 ⟨i,b,rfl,rfl⟩,hx⟩,?_⟩;simpa using a
  ·cases a
 ·rintro ⟨u,v,⟨d,hx⟩,a⟩;obtain⟨i,b,rfl,rfl⟩:=(Qn c).1 d;refine⟨i,List.mem_range.2 b,?_⟩;unfold ze;rw[if_pos hx];simpa using a
def Aw{cs:LP}(c:2<=cs.length){q:Int×Int}:q∈pe cs cs.length ↔ oh cs q:=by
 unfold pe oh Om;rw[List.mem_flatMap];constructor
 ·rintro ⟨i,b,a⟩;rw[List.mem_range]at b;unfold Af at a;split at a
  ·rename_i hx;refine⟨_,_,⟨(Qn c).2 ⟨i,b,rfl,rfl⟩,hx⟩,?_⟩;simpa using a
  ·cases a
 ·rintro ⟨u,v,⟨d,hx⟩,a⟩;obtain⟨i,b,rfl,rfl⟩:=(Qn c).1 d;refine⟨i,List.mem_range.2 b,?_⟩;unfold Af;rw[if_pos hx];simpa using a
def zu{α:Type}[DecidableEq α]:∀{c:List α}{x:α},x∈c->x∈Na c
 | [a],x,h=>by simpa[Na] using h
 | a::b::r,x,h=>by
  rw[Na];split
  ·rename_i e;subst e;rcases List.mem_cons.1 h with rfl|h
   ·exact zu (by simp)
   ·exact zu h
  ·rcases List.mem_cons.1 h with rfl|h
   ·simp
   ·exact mC _ (zu h)
def xD{a:LP}{q:Int×Int}:q∈kd a ↔ q∈a:=
 ⟨fun h=>(Qo a).mem_iff.1 (Kr h),fun h=>zu ((Qo a).mem_iff.2 h)⟩
def Gc(l:LP):Prop:=l.Pairwise fun x y=>x.1<y.1
def TE:∀(l:LP),l.Pairwise (fun x y=>x.1<=y.1)->(∀x∈l,∀y∈l,x.1=y.1->x=y)->Gc (Na l)
 | [],_,_=>List.Pairwise.nil
 | [a],_,_=>by unfold Gc;simp[Na]
 | a::b::r,h,hu=>by
  obtain⟨f,g⟩:=List.pairwise_cons.1 h;have i:=TE (b::r) g (fun x m y d=>hu x (mC _ m) y (mC _ d));rw[Na];split
  ·exact i
  ·rename_i hne;refine List.pairwise_cons.2 ⟨fun y d=>?_,i⟩;have c:=Kr d;have k:=f y c;have n:=f b sM;have j:b.1<=y.1:=by
    rcases List.mem_cons.1 c with rfl|c
    ·exact Int.le_refl _
    ·exact(List.pairwise_cons.1 g).1 y c
   have:a.1≠b.1:=fun e=>hne (hu a sM b sM e);omega
def ND{k:Int}{a:LP}(e:xg k a)(c:k<=1000000)(f:∀x∈a,∀y∈a,x.1=y.1->x=y):Gc (kd a):=by
 have d:=Qo a;exact TE _ (Yw fun x b=>by
  have:=e x b;unfold BP;exact⟨this.1.mono c,this.2.mono c⟩) (fun x b y g=>f x (d.mem_iff.1 b) y (d.mem_iff.1 g))
def Gc.between{l:LP}(h:Gc l){e:Gj}(d:e∈Qe l):e.1∈l/\e.2∈l/\e.1.1<e.2.1/\∀q∈l,¬(e.1.1<q.1/\q.1<e.2.1):=by
 unfold Qe at d;obtain⟨i,f,rfl⟩:=List.getElem_of_mem d;have b:i+1<l.length:=by rw[List.length_zip,List.length_tail]at f;omega
 have k:(l.zip l.tail)[i]'f=(l[i]' oM,l[i+1]'b):=sM;rw[k];have c:=List.pairwise_iff_getElem.1 h;refine⟨List.getElem_mem _,List.getElem_mem _,c i (i+1) oM b oM,fun q n=>?_⟩;obtain⟨j,g,rfl⟩:=List.getElem_of_mem n;dsimp only;rintro ⟨o,p⟩;rcases Nat.lt_trichotomy j i with a|rfl|a
 ·have:=c j i g oM a;omega
 ·omega
 ·rcases Nat.lt_or_eq_of_le (show i+1<=j from a)with m|rfl
  ·have:=c (i+1) j b g m;omega
  ·omega
def Qk{p:Pl}(h:Fa p=true):Gc (Ea p)/\(∀q,q∈Ea p ↔ oe (Ga p) q)/\∀e∈Qe (Ea p),jk (Ga p) e.1 e.2:=by
 have c:=ur h;have b:2<=(Ga p).length:=by have:=c.three;omega
 obtain⟨i,r,yj⟩:=To h;have l:=yq i (nE _);have a:∀q,q∈Ea p ↔ oe (Ga p) q:=fun q=>by unfold Ea;rw[xD,Qw b]
 have g:Gc (Ea p):=ND l.1 dM (fun x f y m e=>oe.uniq c ((Qw b).1 f) ((Qw b).1 m) e);refine⟨g,a,fun e j=>?_⟩;obtain⟨n,o,f,d⟩:=g.between j;exact oe.edge c ((a _).1 n) ((a _).1 o) f (fun q k=>d q ((a q).2 k))
def En{p:Pl}(h:Fa p=true):Gc (Pb p)/\(∀q,q∈Pb p ↔ oh (Ga p) q)/\∀e∈Qe (Pb p),Om (Ga p) e.2 e.1:=by
 have c:=ur h;have b:2<=(Ga p).length:=by have:=c.three;omega
 obtain⟨i,r,yj⟩:=To h;have l:=yq i (nE _);have a:∀q,q∈Pb p ↔ oh (Ga p) q:=fun q=>by unfold Pb;rw[xD,Aw b]
 have g:Gc (Pb p):=ND l.2 dM (fun x f y m e=>oh.uniq c ((Aw b).1 f) ((Aw b).1 m) e);refine⟨g,a,fun e j=>?_⟩;obtain⟨n,o,f,d⟩:=g.between j;exact oh.edge c ((a _).1 n) ((a _).1 o) f (fun q k=>d q ((a q).2 k))
def xh(k:Int):Rat:=((2*k+1:Int):Rat)/2
def pB(x y:Rat):Eb x y<=0 ↔ x<=y:=by rw[<-Int.not_lt,Kq,Rat.not_lt]
def jz(k:Int):xh k*2=((2*k+1:Int):Rat):=by unfold xh;rw[Rat.div_mul_cancel dM]
def zF(k m:Int):xh k<=(m:Rat) ↔ k<m:=by
 have c:(0:Rat)<=2:=dM;have b:(m:Rat)*2=((m*2:Int):Rat):=by rw[Rat.intCast_mul];rfl
 constructor
 ·intro h;have:=Rat.mul_le_mul_of_nonneg_right h c;rw[jz,b,Rat.intCast_le_intCast]at this;omega
 ·intro h;refine Rat.not_lt.1 fun a=>?_;have:=Rat.mul_le_mul_of_nonneg_right (Rat.le_of_lt a) c;rw[jz,b,Rat.intCast_le_intCast]at this;omega
def FD(k:Int):∀(l:LP)(a:Int×Int),a.1<=k->(∃b∈l,k<b.1)->∃e∈Qe (a::l),e.1.1<=k/\k<e.2.1/\(Qe (a::l)).find? (Oh (xh k))=N e
 | [],a,_,⟨b,d,_⟩=>by cases d
 | b::r,a,ha,h=>by
  have e:Qe (a::b::r)=(a,b)::Qe (b::r):=rfl;have j:Oh (xh k) (a,b)=decide (k<b.1):=by
   unfold Oh;rw[decide_eq_decide,pB,zF]
  rw[e];by_cases d:k<b.1
  ·refine⟨(a,b),by simp,ha,d,?_⟩;rw[List.find?_cons,j,decide_eq_true d]
  ·obtain⟨m,c,i⟩:=h;have f:∃b∈r,k<b.1:=by
    rcases List.mem_cons.1 c with rfl|c
    ·exact absurd i d
    ·exact⟨m,c,i⟩
   obtain⟨n,g,o,p,q⟩:=FD k r b oM f;refine⟨n,mC _ g,o,p,?_⟩;rw[List.find?_cons,j,decide_eq_false d];exact q
def GH{l:LP}{k:Int}(d:l≠[])(j:Ra l<=k)(c:k<Ya l):∃e∈Qe l,e.1.1<=k/\k<e.2.1/\Yd l (xh k)=Oi (xh k) e:=by
 cases l with
 | nil=>exact absurd rfl d
 | cons a r =>
  have m:a.1<=k:=j;have o:∃b∈r,k<b.1:=by
   cases r with
   | nil=>unfold Ya at c;simp at c;omega
   | cons b r =>
    refine⟨(b::r).getLast sM,List.getLast_mem _,?_⟩;unfold Ya at c;rw[gD,gE sM]at c;simp only[Option.getD_some]at c;rw[List.getLast_eq_getElem];simpa using c
  obtain⟨e,n,f,g,i⟩:=FD k r a m o;refine⟨e,n,f,g,?_⟩;unfold Yd;rw[i]
def jo{cs:LP}(h:Qf cs)(u v:Int×Int):∃c∈cs,c≠u/\c≠v:=by
 apply Classical.byContradiction;intro d;have f:∀c∈cs,c∈[u,v]:=fun c b=>by
  apply Classical.byContradiction;intro a;exact d ⟨c,b,fun e=>a (by simp[e]),fun e=>a (by simp[e])⟩
 have:=List.Nodup.length_le_of_subset h.nd f;have:=h.three;simp at *;omega
def Ud.ne{cs:LP}(h:Qf cs){u v:Int×Int}(f:Ud cs u v):u≠v:=by
 rintro rfl;obtain⟨c,d,a,b⟩:=jo h u u;have:=h.left u u f c d a b;unfold Ke at this;have e:(u.1-u.1)*(c.2-u.2)-(u.2-u.2)*(c.1-u.1)=0:=by grind
 omega
def Qf.minLow{cs:LP}(h:Qf cs):∃u,oe cs u/\∀c∈cs,u.1<=c.1:=by
 obtain⟨v,hv,a⟩:=LC (fun q:Int×Int=>q.1) (S:=cs) (by rintro rfl;have:=h.three;simp at this);have r:2<=cs.length:=by have:=h.three;omega
 obtain⟨s,j⟩:=Ud.next hv r;by_cases n:v.1<s.1
 ·exact⟨v,⟨v,s,⟨j,n⟩,.inl rfl⟩,a⟩
 have d:=j.mem.2;have o:s.1=v.1:=by have:=a s d;omega
 obtain⟨t,k⟩:=Ud.next d r;by_cases l:s.1<t.1
 ·exact⟨s,⟨s,t,⟨k,l⟩,.inl rfl⟩,fun c i=>by rw[o];exact a c i⟩
 exfalso;have f:=k.mem.2;have y:t.1=v.1:=by have:=a t f;omega
 by_cases g:t=v
 ·subst g;obtain⟨c,i,p,w⟩:=jo h t s;have b:=h.left t s j c i p w;have x:=h.left s t k c i w p;unfold Ke at b x;have e:(s.1-t.1)*(c.2-s.2)-(s.2-t.2)*(c.1-s.1)+((t.1-s.1)*(c.2-t.2)-(t.2-s.2)*(c.1-t.1))=0:=by grind
  omega
 ·have m:t≠s:=fun e=>(k.ne h) e.symm;have b:=h.left v s j t f g m;unfold Ke at b;rw[o,y,Int.sub_self]at b;simp at b
def jn(p:Int×Int):Int×Int:=(p.1,-p.2)
def Bt(p:Int×Int):jn (jn p)=p:=by unfold jn;simp
def Qf.mz{cs:LP}(h:Qf cs):Qf (cs.map jn).reverse:=
 h.flip _ (fun u v c=>by unfold Ke jn;dsimp only;grind) (fun x y e=>by rw[<-Bt x,e,Bt])
def oe.mz{cs:LP}{q:Int×Int}(h:oe (cs.map jn).reverse q):oh cs (jn q):=by
 obtain⟨u,v,⟨e,d⟩,f⟩:=h;obtain⟨i,g,b,c,a⟩:=(Ud.rev e).map;refine⟨i,g,⟨a,?_⟩,?_⟩
 ·rw[b,c]at d;exact d
 ·rcases f with rfl|rfl
  ·right;rw[c,Bt]
  ·left;rw[b,Bt]
def Qf.minUp{cs:LP}(h:Qf cs):∃u,oh cs u/\∀c∈cs,u.1<=c.1:=by obtain⟨u,d,b⟩:=h.mz.minLow;refine⟨jn u,d.mz,fun c a=>?_⟩;exact b (jn c) (List.mem_reverse.2 (List.mem_map_of_mem a))
def Qf.maxLow{cs:LP}(h:Qf cs):∃u,oe cs u/\∀c∈cs,c.1<=u.1:=by
 obtain⟨u,d,b⟩:=h.ng.minUp;refine⟨Og u,?_,fun c a=>?_⟩
 ·have:=oh.ng.1 d
  rwa [List.map_map,show Og ∘ Og=id from funext pk,List.map_id]at this
 ·have:=b (Og c) (List.mem_map_of_mem a);unfold Og at *;dsimp only at *;omega
def Qf.maxUp{cs:LP}(h:Qf cs):∃u,oh cs u/\∀c∈cs,c.1<=u.1:=by obtain⟨u,d,b⟩:=h.ng.minLow;refine⟨Og u,oh.ng.2 (by rw[pk];exact d),fun c a=>?_⟩;have:=b (Og c) (List.mem_map_of_mem a);unfold Og at *;dsimp only at *;omega
def Gc.ends{l:LP}(h:Gc l)(c:l≠[]):(∃q∈l,q.1=Ra l)/\(∃q∈l,q.1=Ya l)/\∀q∈l,Ra l<=q.1/\q.1<=Ya l:=by
 have a:=List.length_pos_iff.2 c;have j:=List.pairwise_iff_getElem.1 h;have d:Ra l=(l[0]'a).1:=by unfold Ra;rw[gD,gE a];rfl
 have e:Ya l=(l[l.length-1]' oM).1:=by unfold Ya;rw[gD,gE oM];rfl
 refine⟨⟨_,List.getElem_mem a,d.symm⟩,⟨_,List.getElem_mem oM,e.symm⟩,fun q k=>?_⟩;obtain⟨i,g,rfl⟩:=List.getElem_of_mem k;rw[d,e];constructor
 ·rcases Nat.eq_zero_or_pos i with rfl|b
  ·exact Int.le_refl _
  ·have:=j 0 i a g b;omega
 ·rcases Nat.lt_or_ge i (l.length-1)with f|f
  ·have:=j i (l.length-1) g oM f;omega
  ·have:i=l.length-1:=oM;subst this;exact Int.le_refl _
def oh.mem{cs:LP}{q:Int×Int}(h:oh cs q):q∈cs:=by
 obtain⟨u,v,⟨a,_⟩,rfl|rfl⟩:=h
 ·exact a.mem.1
 ·exact a.mem.2
def Ro{p:Pl}(h:Fa p=true):Ra (Pb p)=Ra (Ea p)/\Ya (Pb p)=Ya (Ea p)/\Ra (Ea p)<Ya (Ea p)/\Ea p≠[]/\Pb p≠[]:=by
 have s:=ur h;obtain⟨r1,k,d1⟩:=Qk h;obtain⟨r2,l,d2⟩:=En h;obtain⟨a,z,f⟩:=s.minLow;obtain⟨b,Q,g⟩:=s.minUp;obtain⟨c,K,i⟩:=s.maxLow;obtain⟨d,hd,j⟩:=s.maxUp;have T:Ea p≠[]:=fun e=>by have:=(k a).2 z;rw[e]at this;cases this
 have W:Pb p≠[]:=fun e=>by have:=(l b).2 Q;rw[e]at this;cases this
 obtain⟨⟨t,m,e1⟩,⟨w,n,e2⟩,r⟩:=r1.ends T;obtain⟨⟨x,o,e3⟩,⟨y,q,e4⟩,P⟩:=r2.ends W;have g1:=r a ((k a).2 z);have g2:=P b ((l b).2 Q);have g3:=r c ((k c).2 K);have g4:=P d ((l d).2 hd);have k1:=f x ((l x).1 o).mem;have k2:=g t ((k t).1 m).mem;have k3:=i y ((l y).1 q).mem;have k4:=j w ((k w).1 n).mem;have k5:=f t ((k t).1 m).mem;have k6:=g x ((l x).1 o).mem;have k7:=i w ((k w).1 n).mem;have k8:=j y ((l y).1 q).mem;refine⟨by omega,by omega,?_,T,W⟩;obtain⟨u,v,⟨R,S⟩,_⟩:=z;have hu:=r u ((k u).2 ⟨u,v,⟨R,S⟩,.inl rfl⟩);have hv:=r v ((k v).2 ⟨u,v,⟨R,S⟩,.inr rfl⟩);omega
end
section
open Go.RowKit Go.Shelf
def nh(by':Int)(a b:Int×Int):Prop:=a.1<b.1\/(a.1=b.1/\by'*(a.2-b.2)<0)
instance (by':Int) (a b:Int×Int):Decidable (nh by' a b):=by unfold nh;infer_instance
def Le(l:LP)(by':Int):Nat->Nat
 | 0=>0
 | i+1=>if nh by' (Pa l i) (Pa l (Le l by' i))then i else Le l by' i
def Nz(l:LP){by':Int}(d:by'=1\/by' = -1):∀n,Le l by' (n+1)<n+1/\∀j,j<n+1->¬nh by' (Pa l j) (Pa l (Le l by' (n+1))):=by
 intro n;induction n with
 |zero=>
  have e:Le l by' 1=0:=by unfold Le;split<;>rfl
  rw[e];refine⟨by omega,fun j g=>?_⟩;obtain rfl:j=0:=oM;unfold nh;rcases d with rfl|rfl<;>omega
 | succ n o =>
  obtain⟨i,b⟩:=o;have m:Le l by' (n+1+1)=if nh by' (Pa l (n+1)) (Pa l (Le l by' (n+1)))then n+1 else Le l by' (n+1):=rfl;rw[m];obtain⟨f,k⟩:=gX (Le l by' (n+1));rw[k]at i b ⊢;by_cases c:nh by' (Pa l (n+1)) (Pa l f)
  ·rw[if_pos c];refine⟨by omega,fun j g=>?_⟩;by_cases a:j=n+1
   ·subst a;unfold nh;rcases d with rfl|rfl<;>omega
   ·have:=b j oM;unfold nh at *
    rcases d with rfl|rfl<;>omega
  ·rw[if_neg c];refine⟨by omega,fun j g=>?_⟩;by_cases a:j=n+1
   ·subst a;exact c
   ·exact b j oM
def Dh(n s:Nat)(by':Int)(k:Nat):Nat:=(((s:Int)+by'*(k:Int))%(n:Int)).toNat
def Fp{n s k:Nat}{by':Int}(h:0<n):Dh n s by' k<n:=by unfold Dh;have a:=Int.emod_nonneg ((s:Int)+by'*(k:Int)) (show (n:Int)≠0 by omega);have b:=Int.emod_lt_of_pos ((s:Int)+by'*(k:Int)) (show 0<(n:Int) by omega);omega
def Av{n s:Nat}{by':Int}(h:s<n):Dh n s by' 0=s:=by unfold Dh;simp only[Int.natCast_zero,Int.mul_zero,Int.add_zero];rw[Int.emod_eq_of_lt oM oM];omega
def ot{n s k:Nat}{by':Int}(h:0<n):(Dh n s by' k:Int)=((s:Int)+by'*(k:Int))%(n:Int):=by unfold Dh;have a:=Int.emod_nonneg ((s:Int)+by'*(k:Int)) (show (n:Int)≠0 by omega);omega
def Bv{n s k:Nat}{by':Int}(h:0<n):(((Dh n s by' k:Nat):Int)+by'+(n:Int))%(n:Int)=((Dh n s by' (k+1):Nat):Int):=by
 rw[ot h,ot h,Int.add_emod_right,Int.emod_add_emod]
 congr 1
 rw[Int.natCast_add];grind
def jA{n s k:Nat}(h:0<n):(Dh n s 1 k+1)%n=Dh n s 1 (k+1):=by
 have:=Bv (n:=n) (s:=s) (k:=k) (by':=1) h;rw[Int.add_emod_right]at this;have e:(((Dh n s 1 k+1)%n:Nat):Int)=((Dh n s 1 k:Nat)+1:Int)%n:=by rw[Int.natCast_emod,Int.natCast_add];rfl
 omega
def iA{n s k:Nat}(h:0<n):(Dh n s (-1) (k+1)+1)%n=Dh n s (-1) k:=by
 have a:=ot (n:=n) (s:=s) (k:=k+1) (by':=-1) h;have b:=ot (n:=n) (s:=s) (k:=k) (by':=-1) h;have e:(((Dh n s (-1) (k+1)+1)%n:Nat):Int)=((Dh n s (-1) (k+1):Nat)+1:Int)%n:=by rw[Int.natCast_emod,Int.natCast_add];rfl
 have:(((Dh n s (-1) (k+1)+1)%n:Nat):Int)=((Dh n s (-1) k:Nat):Int):=by
  rw[e,a,b,Int.emod_add_emod]
  congr 1
  rw[Int.natCast_add];grind
 omega
structure uq (cs:LP) (by':Int) (L:LP):Prop where
 ne:L≠[]
 pos:0<cs.length
 at':∀k,k<L.length->Pa L k=Pa cs (Dh cs.length (Le cs by' cs.length) by' k)
 up:∀k,k+1<L.length->(Pa L k).1<(Pa L (k+1)).1
 stop:(Pa cs (Dh cs.length (Le cs by' cs.length) by' L.length)).1<=(Pa L (L.length-1)).1
def Ah{l:LP}{i:Nat}(h:i<l.length):Pa l i=l[i]:=by unfold Pa;rw[gD,gE h];rfl
def ji{l:LP}{i:Nat}(h:i<l.length):Pa l i∈l:=by rw[Ah h];exact List.getElem_mem h
def FA{l:LP}(h:l.Nodup){i j:Nat}(b:i<l.length)(c:j<l.length)(e:Pa l i=Pa l j):i=j:=by
 rw[Ah b,Ah c]at e;have d:=List.pairwise_iff_getElem.1 h;rcases Nat.lt_trichotomy i j with a|a|a
 ·exact absurd e (d i j b c a)
 ·exact a
 ·exact absurd e.symm (d j i c b a)
def Py{l:LP}{k:Nat}(h:k+1<l.length):(Pa l k,Pa l (k+1))∈Qe l:=by
 refine lM (i:=k) (Jv ?_ ?_)
 ·rw[Ah oM];exact gE _
 ·rw[Ah h];exact gE _
def Jn{l:LP}(h:Gc l){i j:Nat}(a:i<j)(b:j<l.length):(Pa l i).1<(Pa l j).1:=by rw[Ah oM,Ah b];exact List.pairwise_iff_getElem.1 h i j oM b a
def Ry{cs L:LP}{by':Int}(v:by'=1\/by' = -1)(g:cs.Nodup)(h3:3<=cs.length)(S:Gc L)(l:L≠[])(p:∀q∈L,q∈cs)(y:∀c∈cs,c≠Pa L 0->nh by' (Pa L 0) c)(t:∀k,k+1<L.length->∃i,i<cs.length/\(by'=1->Pa cs i=Pa L k/\Pa cs ((i+1)%cs.length)=Pa L (k+1))/\(by' = -1->Pa cs i=Pa L (k+1)/\Pa cs ((i+1)%cs.length)=Pa L k))(f:∀i j,i<cs.length->j<cs.length->Pa cs i=Pa L (L.length-1)->(by'=1->j=(i+1)%cs.length)->(by' = -1->i=(j+1)%cs.length)->(Pa cs j).1<=(Pa L (L.length-1)).1):uq cs by' L:=by
 have Q:=List.length_pos_iff.2 l;obtain⟨n,R⟩:∃n,cs.length=n+1:=⟨cs.length-1,by omega⟩;obtain⟨u,w⟩:=Nz cs v n;rw[<-R]at u w;have d:∀k,k<L.length->Pa L k=Pa cs (Dh cs.length (Le cs by' cs.length) by' k):=by
  intro k;induction k with
  |zero=>
   intro _;rw[Av u];by_cases e:Pa cs (Le cs by' cs.length)=Pa L 0
   ·exact e.symm
   ·exfalso;obtain⟨j,P,x⟩:=List.getElem_of_mem (p _ (ji Q));have:=w j oM;rw[Ah P,x]at this;exact this (y _ (ji u) e)
  | succ k o =>
   intro r;have o:=o oM;obtain⟨i,K,T,W⟩:=t k r;rcases v with rfl|rfl
   ·obtain⟨a,b⟩:=T rfl;rw[o]at a;have:=FA g K (Fp oM) a;rw[<-b,this,jA oM]
   ·obtain⟨a,b⟩:=W rfl;rw[o]at b;have m:=FA g (Nat.mod_lt _ oM) (Fp oM) b;have:i=Dh cs.length (Le cs (-1) cs.length) (-1) (k+1):=by
     have z:=iA (n:=cs.length) (s:=Le cs (-1) cs.length) (k:=k) oM;have h7:=Fp (n:=cs.length) (s:=Le cs (-1) cs.length) (k:=k+1) (by':=-1) oM;rw[<-z]at m;rw[Ii oM,Ii oM]at m;split at m<;>split at m<;>omega
    rw[<-a,this]
 refine⟨l,by omega,d,fun k r=>Jn S oM r,?_⟩;have e:=d (L.length-1) oM;refine f _ _ (Fp oM) (Fp oM) e.symm (fun h=>?_) (fun h=>?_)
 ·subst h;rw[jA oM,show L.length-1+1=L.length by omega]
 ·subst h;have:=iA (n:=cs.length) (s:=Le cs (-1) cs.length) (k:=L.length-1) oM;rw[show L.length-1+1=L.length by omega]at this;exact this.symm
def AG{u v c:Int×Int}(e:c.1=u.1)(d:u.1<v.1)(h:0<Ke u v c):u.2<c.2:=by
 unfold Ke at h;rw[e]at h;have a:(v.1-u.1)*(c.2-v.2)-(v.2-u.2)*(u.1-v.1)=(v.1-u.1)*(c.2-u.2):=by grind
 rw[a]at h;by_cases b:u.2<c.2
 ·exact b
 ·have:=Int.mul_nonpos_of_nonneg_of_nonpos (show 0<=v.1-u.1 by omega) (show c.2-u.2<=0 by omega);omega
def pJ{u v c:Int×Int}(e:c.1=v.1)(d:v.1<u.1)(h:0<Ke u v c):c.2<v.2:=by
 unfold Ke at h;rw[e]at h;have a:(v.1-u.1)*(c.2-v.2)-(v.2-u.2)*(v.1-v.1)=(u.1-v.1)*(v.2-c.2):=by grind
 rw[a]at h;by_cases b:c.2<v.2
 ·exact b
 ·have:=Int.mul_nonpos_of_nonneg_of_nonpos (show 0<=u.1-v.1 by omega) (show v.2-c.2<=0 by omega);omega
def DK{cs L:LP}(x:Qf cs)(r:Gc L)(m:∀q,q∈L ↔ oe cs q)(d:∀e∈Qe L,jk cs e.1 e.2)(ne:L≠[]):uq cs 1 L:=by
 have Q:=List.length_pos_iff.2 ne;have h3:=x.three;obtain⟨a,ha,l⟩:=x.minLow;have g:∀c∈cs,(Pa L 0).1<=c.1:=fun c f=>by
  have w:=(m a).2 ha;obtain⟨i,s,e⟩:=List.getElem_of_mem w;have W:=l c f;rcases Nat.eq_zero_or_pos i with rfl|o
  ·rw[Ah Q,e];exact W
  ·have:=Jn r o s;rw[Ah s,e]at this;omega
 refine Ry (.inl rfl) x.nd h3 r ne (fun q b=>((m q).1 b).mem) ?_ ?_ ?_
 ·intro c f K;have w:=g c f;unfold nh;by_cases e:(Pa L 0).1<c.1
  ·exact .inl e
  ·right
   refine⟨by omega,?_⟩;obtain⟨u,v,⟨p,n⟩,b⟩:=(m _).1 (ji Q);rcases b with b|b
   ·(have y:c≠v:=fun o=>by rw[o,b]at e;exact e n);have:=x.left u v p c f (by rw[<-b];exact K) y;rw[<-b]at this n;have:=AG oM n this;omega
   ·exfalso;have:=g u p.mem.1;rw[b]at this;omega
 ·intro k hk;obtain⟨p,n⟩:=d _ (Py hk);obtain⟨i,s,S,T⟩:=(Qn oM).1 p;exact⟨i,s,fun _=>⟨S,T⟩,fun e=>absurd e dM⟩
 ·intro i j s hj e w _;have z:=w rfl;by_cases n:(Pa cs j).1<=(Pa L (L.length-1)).1
  ·exact n
  ·exfalso;have p:Ud cs (Pa cs i) (Pa cs j):=(Qn oM).2 ⟨i,s,rfl,by rw[z];rfl⟩;have b:Pa cs j∈L:=(m _).2 ⟨_,_,⟨p,by rw[e];omega⟩,.inr rfl⟩;obtain⟨t,R,P⟩:=List.getElem_of_mem b;rcases Nat.lt_or_ge t (L.length-1)with o|o
   ·have:=Jn r o oM;rw[Ah R,P]at this;omega
   ·have:t=L.length-1:=oM;rw[<-this,Ah R,P]at n;omega
def BG{cs L:LP}(x:Qf cs)(r:Gc L)(m:∀q,q∈L ↔ oh cs q)(d:∀e∈Qe L,Om cs e.2 e.1)(ne:L≠[]):uq cs (-1) L:=by
 have Q:=List.length_pos_iff.2 ne;have h3:=x.three;obtain⟨a,ha,l⟩:=x.minUp;have g:∀c∈cs,(Pa L 0).1<=c.1:=fun c f=>by
  have w:=(m a).2 ha;obtain⟨i,s,e⟩:=List.getElem_of_mem w;have W:=l c f;rcases Nat.eq_zero_or_pos i with rfl|o
  ·rw[Ah Q,e];exact W
  ·have:=Jn r o s;rw[Ah s,e]at this;omega
 refine Ry (.inr rfl) x.nd h3 r ne (fun q b=>((m q).1 b).mem) ?_ ?_ ?_
 ·intro c f K;have w:=g c f;unfold nh;by_cases e:(Pa L 0).1<c.1
  ·exact .inl e
  ·right
   refine⟨by omega,?_⟩;obtain⟨u,v,⟨p,n⟩,b⟩:=(m _).1 (ji Q);rcases b with b|b
   ·exfalso;have:=g v p.mem.2;rw[b]at this;omega
   ·(have y:c≠u:=fun o=>by rw[o,b]at e;exact e n);have:=x.left u v p c f y (by rw[<-b];exact K);rw[<-b]at this n;have:=pJ oM n this;omega
 ·intro k hk;obtain⟨p,n⟩:=d _ (Py hk);obtain⟨i,s,S,T⟩:=(Qn oM).1 p;exact⟨i,s,fun e=>absurd e dM,fun _=>⟨S,T⟩⟩
 ·intro i j s hj e _ w;have z:=w rfl;by_cases n:(Pa cs j).1<=(Pa L (L.length-1)).1
  ·exact n
  ·exfalso;have p:Ud cs (Pa cs j) (Pa cs i):=(Qn oM).2 ⟨j,hj,rfl,by rw[<-z];rfl⟩;have b:Pa cs j∈L:=(m _).2 ⟨_,_,⟨p,by rw[e];omega⟩,.inl rfl⟩;obtain⟨t,R,P⟩:=List.getElem_of_mem b;rcases Nat.lt_or_ge t (L.length-1)with o|o
   ·have:=Jn r o oM;rw[Ah R,P]at this;omega
   ·have:t=L.length-1:=oM;rw[<-this,Ah R,P]at n;omega
def yH{p:Pl}(h:Fa p=true):uq (Ga p) 1 (Ea p):=
 DK (ur h) (Qk h).1 (Qk h).2.1 (Qk h).2.2 (Ro h).2.2.2.1
def MF{p:Pl}(h:Fa p=true):uq (Ga p) (-1) (Pb p):=
 BG (ur h) (En h).1 (En h).2.1 (En h).2.2 (Ro h).2.2.2.2
end
section
open Go.RowKit Go.Shelf Go.Sort Go.Lib
def pC(a b:Int×Int):Oi (a.1:Rat) (a,b)=(a.2:Rat):=by unfold Oi;dsimp only;rw[Rat.sub_self,Rat.zero_mul,Rat.div_def,Rat.zero_mul,Rat.add_zero]
def ED(a b:Int×Int)(h:a.1<b.1):Oi (b.1:Rat) (a,b)=(b.2:Rat):=by
 have e:((b.1-a.1:Int):Rat)≠0:=by
  intro f;have:(b.1-a.1:Int)=0:=by exact_mod_cast f
  omega
 unfold Oi;dsimp only;generalize hq:(((b.1:Int):Rat)-((a.1:Int):Rat))*((b.2-a.2:Int):Rat)/((b.1-a.1:Int):Rat)=q;have d:q*((b.1-a.1:Int):Rat)=(((b.1:Int):Rat)-((a.1:Int):Rat))*((b.2-a.2:Int):Rat):=by rw[<-hq,Rat.div_mul_cancel e]
 rw[<-Rat.intCast_sub,Rat.mul_comm]at d;have:q=((b.2-a.2:Int):Rat):=by
  have c:(q-((b.2-a.2:Int):Rat))*((b.1-a.1:Int):Rat)=0:=by grind
  rcases Rat.mul_eq_zero.1 c with c|c
  ·grind
  ·exact absurd c e
 rw[this,Rat.intCast_sub];grind
def KA(x:Rat)(a b:Int×Int)(k:((a.1:Int):Rat)<=x)(o:x<=((b.1:Int):Rat)):∀(l:LP),Gc l->(a,b)∈Qe l->∃e,(Qe l).find? (Oh x)=N e/\Oi x e=Oi x (a,b)
 | [],_,h=>by simp[Qe]at h
 | [c],_,h=>by simp[Qe]at h
 | c::d::r,hR,h=>by
  have e:Qe (c::d::r)=(c,d)::Qe (d::r):=rfl;have t:Oh x (c,d)=decide (x<=((d.1:Int):Rat)):=by
   unfold Oh;rw[decide_eq_decide,pB]
  obtain⟨p,f⟩:=List.pairwise_cons.1 hR;rw[e]at h ⊢;rw[List.find?_cons,t];rcases List.mem_cons.1 h with h|h
  ·cases h;rw[decide_eq_true o];exact⟨_,rfl,rfl⟩
  ·by_cases j:x<=((d.1:Int):Rat)
   ·rw[decide_eq_true j];refine⟨_,rfl,?_⟩;have i:=(Gc.between f h).1;have s:d.1<=a.1:=by
     rcases List.mem_cons.1 i with g|g
     ·dsimp only at g;rw[g];exact Int.le_refl _
     ·have:=(List.pairwise_cons.1 f).1 _ g;dsimp only at this;omega
    have q:a.1<=d.1:=by
     have:=Rat.le_trans k j;exact Rat.intCast_le_intCast.1 this
    have m:a=d:=by
     rcases List.mem_cons.1 i with g|g
     ·exact g
     ·have:=(List.pairwise_cons.1 f).1 _ g;dsimp only at this;omega
    subst m;have n:x=((a.1:Int):Rat):=Rat.le_antisymm j k;rw[n,pC,ED _ _ (p a sM)]
   ·rw[decide_eq_false j];exact KA x a b k o (d::r) f h
def DF{x:Rat}{l:LP}(c:Gc l){e:Gj}(i:e∈Qe l)(d:((e.1.1:Int):Rat)<=x)(g:x<=((e.2.1:Int):Rat)):Yd l x=Oi x e:=by obtain⟨f,a,b⟩:=KA x e.1 e.2 d g l c i;unfold Yd;rw[a];exact b
def NP(e:Gj)(s t x:Rat):(t-s)*Oi x e=(t-x)*Oi s e+(x-s)*Oi t e:=by unfold Oi;simp only[Rat.div_def];grind
def sP{zs:List Int}{z:Int}(h:z∈zs):z∈compact zs:=by
 obtain⟨i,a,rfl⟩:=List.getElem_of_mem h;have b:∀j,(hj:j<zs.length)->zs.toArray[j]! = zs[j]:=fun j hj=>by rw[getElem!_pos _ _ (by simpa using hj)];simp
 have f:∀i,(a:i<zs.length)->∃j,j<zs.length/\keeps zs.toArray j=true/\zs.toArray[j]! = zs[i]:=by
  intro i;induction i with
  | zero=>intro a;exact⟨0,a,by simp[keeps],b 0 a⟩
  | succ i g =>
   intro a;cases hk:keeps zs.toArray (i+1)with
   | true=>exact⟨i+1,a,hk,b _ a⟩
   |false=>
    obtain⟨j,c,d,e⟩:=g oM;refine⟨j,c,d,?_⟩;rw[e,<-b _ a,<-b i oM];simp[keeps]at hk;grind
 obtain⟨j,c,d,e⟩:=f i a;unfold compact compactUpTo;refine List.mem_map.2 ⟨j,List.mem_filter.2 ⟨List.mem_range.2 c,d⟩,e⟩
def jw{s:Sp}{z:Int}(h:z=s.lo\/z=s.hi\/(s.lo<z/\z<s.hi/\∃q∈s.over++s.under,q.1=z)):(z:Rat)∈Jb s:=by
 unfold Jb Mc;refine List.mem_map_of_mem (sP (Eh.2 ?_));rcases h with rfl|rfl|⟨a,b,q,c,rfl⟩
 ·simp
 ·simp
 ·refine mC _ (mC _ ?_);unfold Eg;refine List.mem_filter.2 ⟨List.mem_map_of_mem c,?_⟩;unfold jq;simp[a,b]
def jI{q:Rat}(h:0<=q.num.sign):0<=q:=by have:0<=q.num:=Int.sign_nonneg_iff.1 h;exact Rat.num_nonneg.1 this
end
section
open Go.RowKit Go.Shelf
attribute [local go_sem] Oper.semAt_some
def KQ(w:X)(s:Sp)(b c d:I)(pin:Int)(qs:List Rat)(o:Rat×Rat)(g:Nat)(a:I)(W:X):Prop:=
 ∃i:Nat,i<=qs.length/\a=C F i/\g=qs.length-i/\pj w s b c d qs (Cb (Ib s pin) qs o i) W
def AP{w W j b:X}{o:Obj}{p v x:Rat}{a g:Option D}{m c i c2:Nat}{s:Bool}(u:Ba w W)(Q:w.heap.size+1+1+1<=W.heap.size)(K:W.heap[w.heap.size]?=N o)(r:RB W (w.heap.size+1) v)(t:RB W (w.heap.size+1+1) x)(k:Ab W (E #[O a m c,Z s,O g i c2]) p)(d:((W.setCell ⟨w.heap.size+1,0,Y⟩ (O a m c)).setCell ⟨w.heap.size+1,1,Y⟩ (Z s)).setCell ⟨w.heap.size+1,2,Y⟩ (O g i c2)=j)(e:((j.setCell ⟨w.heap.size+1+1,0,Y⟩ (O a m c)).setCell ⟨w.heap.size+1+1,1,Y⟩ (Z s)).setCell ⟨w.heap.size+1+1,2,Y⟩ (O g i c2)=b):Ba w b.drew/\w.heap.size+1+1+1<=b.drew.heap.size/\b.drew.heap[w.heap.size]?=N o/\RB b.drew (w.heap.size+1) p/\RB b.drew (w.heap.size+1+1) p:=by
 obtain⟨l,n,y,z,P,q⟩:=RB.copy2 r t oM k k d e;have f:Ba b b.drew:=(eR _).drew;refine⟨(q w u oM oM).drew,nT oM f.size,f.e ?_,l.ext f,n.ext f⟩;rw[<-e,<-d]
 repeat rw[bS _ _ _ _ dO]
 exact K
def pj.box{w:X}{s:Sp}{Q R j:I}{qs:List Rat}{o:Rat×Rat}{W:X}(h:pj w s Q R j qs o W){a x:Option D}{m c K c2 b:Nat}{v:Bool}{p p0:Rat}(hb:w.heap.size+1+1+1<=b)(hv:j.ownBlock≠N b)(y:RB W b p0)(hz:Ab W (E #[O a m c,Z v,O x K c2]) p){g:X}(d:((W.setCell ⟨b,0,Y⟩ (O a m c)).setCell ⟨b,1,Y⟩ (Z v)).setCell ⟨b,2,Y⟩ (O x K c2)=g):pj w s Q R j qs o g/\RB g b p/\(∀b' r,b'≠b->RB W b' r->RB g b' r)/\g.heap.size=W.heap.size:=by
 obtain⟨T,h2,h3,h4,h5,h6⟩:=h;have n:=y.not;have t:=n.set ⟨b,0,Y⟩ (O a m c);have P:=t.set ⟨b,1,Y⟩ (Z v);have k:∀b' r,b'≠b->RB W b' r->RB g b' r:=fun b' r f hr=>by
  rw[<-d];exact((hr.other (Ne.symm f) n _).other (Ne.symm f) t _).other (Ne.symm f) P _
 have e:∀(V:X)(u:I)(q:D),q.block=b->Ef V (w.heap.size+1+1+1) j qs->ld 2 V b->Ef (V.setCell q u) (w.heap.size+1+1+1) j qs:=fun V u q z ho hn=>by
  obtain⟨S,k1,k2,k3⟩:=ho;exact⟨S,k1.setOther (by rw[z];exact hv) _,k2,fun i c q' hc l=>Ab.keep (k3 i c q' hc l) (Ia.x (Ia.refl _ _) (by rw[z];exact hn) u)⟩
 refine⟨⟨?_,?_,?_,k _ _ oM h4,k _ _ oM h5,?_⟩,?_,k,?_⟩
 ·rw[<-d];exact((T.set dO _).set dO _).set dO _
 ·rw[<-d];simpa using h2
 ·rw[<-d]
  repeat rw[bS _ _ _ _ dO]
  exact h3
 ·rw[<-d];exact e _ _ _ rfl (e _ _ _ rfl (e _ _ _ rfl h6 n) t) P
 ·rw[<-d];exact y.put hz
 ·rw[<-d];simp
def Fr(q:Rat):-1<=q.num.sign/\q.num.sign<=1:=by
 rcases Int.lt_trichotomy q.num 0 with h|h|h
 ·rw[Int.sign_eq_neg_one_of_neg h];decide
 ·rw[h];decide
 ·rw[Int.sign_eq_one_of_pos h];decide
def Yx(w:X)(s:Sp)(d e f:I)(qs:List Rat)(o:Rat×Rat)(i:Nat)(x g:Rat)(a b c:I)(W:X):Prop:=
 ∃b11 b12,a=C F (i:Int)/\b=H (N ⟨b11,0,Y⟩)/\c=H (N ⟨b12,0,Y⟩)/\w.heap.size+1+1+1<=b11/\b11<b12/\b12<W.heap.size/\pj w s d e f qs o W/\RB W b11 x/\RB W b12 g
def Xx(w:X)(s:Sp)(e f j:I)(qs:List Rat)(o:Rat×Rat)(i:Nat)(x g h:Rat)(a b c d:I)(W:X):Prop:=
 ∃b13,Yx w s e f j qs o i x g a b c W/\d=H (N ⟨b13,0,Y⟩)/\b13<W.heap.size/\RB W b13 h
def Wv{w:X}{s:Sp}{v1 v2 vq:I}{qs:List Rat}{o:Rat×Rat}{W:X}(h:pj w s v1 v2 vq qs o W){a K e P:Option D}{m c R c2 n k S Q:Nat}{T t:Bool}{p q x g:Rat}{b d i:Nat}(u:Ab W (E #[O a m c,Z T,O K R c2]) p)(v:Ab W (E #[O e n k,Z t,O P S Q]) q)(z1:w.heap.size+1+1+1<=b)(z2:b<d)(z3:d<W.heap.size)(h1:RB W b x)(h2:RB W d g){z f:X}(l:((W.setCell ⟨w.heap.size+1,0,Y⟩ (O a m c)).setCell ⟨w.heap.size+1,1,Y⟩ (Z T)).setCell ⟨w.heap.size+1,2,Y⟩ (O K R c2)=z)(r:((z.setCell ⟨w.heap.size+1+1,0,Y⟩ (O e n k)).setCell ⟨w.heap.size+1+1,1,Y⟩ (Z t)).setCell ⟨w.heap.size+1+1,2,Y⟩ (O P S Q)=f):Yx w s v1 v2 vq qs (p,q) i x g (C F (i:Int)) (H (N ⟨b,0,Y⟩)) (H (N ⟨d,0,Y⟩)) f:=by obtain⟨P1,P2,y⟩:=pj.put2 h u v l r;have j:Ba f f:=eR _;exact⟨b,d,rfl,rfl,rfl,z1,z2,Nat.lt_of_lt_of_le oM j.size,P1.ext j,(y _ _ oM h1).ext j,(y _ _ oM h2).ext j⟩
def AA{w:X}{s:Sp}{t u j:I}{qs:List Rat}{o:Rat×Rat}{W:X}(h:pj w s t u j qs o W){a n:Option D}{m c p c2:Nat}{q:Bool}{x g r R:Rat}{d e b i:Nat}(Q:Ab W (E #[O a m c,Z q,O n p c2]) r)(S:w.heap.size+1+1+1<=d)(T:d<e)(z3:e<b)(z4:b<W.heap.size)(z:RB W d x)(K:RB W e g)(P:RB W b R)(hv:j.ownBlock≠N b){l:X}(f:((W.setCell ⟨b,0,Y⟩ (O a m c)).setCell ⟨b,1,Y⟩ (Z q)).setCell ⟨b,2,Y⟩ (O n p c2)=l):Xx w s t u j qs o i x g r (C F (i:Int)) (H (N ⟨d,0,Y⟩)) (H (N ⟨e,0,Y⟩)) (H (N ⟨b,0,Y⟩)) l:=by obtain⟨v,y,k,P4⟩:=pj.box h oM hv P Q f;exact⟨b,⟨d,e,rfl,rfl,rfl,S,T,by omega,v,k _ _ oM z,k _ _ oM K⟩,rfl,by omega,y⟩
def sL{f:Rat->Rat}{qs:List Rat}{o:Rat×Rat}{i:Nat}{x:Rat}(a:qs[i]?=N x):Cb f qs o (i+1)=if i=0 then Qb f (Cb f qs o i) x else je f (Qb f (Cb f qs o i) x) (qs.getD (i-1) 0) x:=by
 have e:qs.getD i 0=x:=by rw[gD,a];rfl
 rw[show Cb f qs o (i+1)=if i=0 then Qb f (Cb f qs o i) (qs.getD i 0)else je f (Qb f (Cb f qs o i) (qs.getD i 0)) (qs.getD (i-1) 0) (qs.getD i 0)from rfl,e]
def MO(w:X)(v1 v2:I)(s:Sp)(pin:Int)(h1:Ja w v1 s.over)(h2:Ja w v2 s.under)(aY:Gg s)(hp:Bd 104000 pin)(aX:pd s pin=false):Calls Tryz.prog 143 #[Hi s v1 v2,C F pin] w (Ck w (Ac s pin)):=by
 have bL:Rb 1 (Ma s).1:=Bh aY _ (by unfold Ma;exact(Nk (Tb s) (pl s)).1);have HT:=Aa (fun(W:X)(hW:Ba w W)=>kD W v1 v2 s (h1.f hW) (h2.f hW) aY);have HG:=Aa (fun(W:X)(hW:Ba w W)(vx:I)(x:Rat)(hx:Ab W vx x)(hb:Rb 1 x)=>Ky W s v1 v2 vx x (h1.f hW) (h2.f hW) aY hx hb);have Hq:=Aa (Bh aY);have bx:=Aa aY;have HS:=Aa (fun(W:X)(hW:Ba w W)=>Wt W v1 v2 s (h1.f hW) (h2.f hW) aY);obtain⟨a1,m1,rfl⟩:=h1.form;obtain⟨a2,m2,rfl⟩:=h2.form;obtain⟨n1,f1⟩:=gX s.over.length;obtain⟨n2,f2⟩:=gX s.under.length;obtain⟨lo,cc⟩:=gX s.lo;obtain⟨hi,cb⟩:=gX s.hi;have c9:=Aa (show Rb 23 (Ma s).2 by obtain⟨j1,j2⟩:=Nk (Tb s) (pl s);unfold Ma;rw[j2];exact Rb.gap (Bh aY _ j1) aY);have Hp:=Aa hp;have cL:-9223372036854775808<=pin:=by unfold Bd at hp;omega
 have cN:pin<=9223372036854775807:=by unfold Bd at hp;omega
 have HC:=Aa (fun(W:X)(va vb:I)(ha:Ab W va (Ma s).2)(hb:Ab W vb (pin:Rat))=>Qj W va vb _ _ ha hb (Ug c9.o oM) (Ug (Yu (k:=1) Hp.o oM) oM));have hR:Ac s pin=N (Cb (Ib s pin) (Jb s) ((Ma s).1,(Ma s).1) (Jb s).length):=by unfold Ac;rw[if_neg (by simp[aX])]
 rw[hR];unfold pd at aX;obtain⟨q1,ch⟩:=gX ((Ma s).1);obtain⟨q2,cO⟩:=gX ((Ma s).2);have dW:=Aa ch;unfold Hi at HS HT HG ⊢;rw[cO]at aX HC c9;rw[ch,cO]at HS;rw[ch]at bL ⊢;have cq:=Aa bL;clear bL;obtain⟨qs,ds⟩:=gX (Jb s);rw[ds]at HT Hq ⊢;obtain⟨R,hR⟩:=gX (Ck w (N (Cb (Ib s pin) qs (q1,q1) qs.length)));rw[hR];have HR:=Aa hR;simp only[f1,f2,cc,cb]at HS HT HG ⊢;clear h1 h2 aY f1 f2 hR ch cO hp ds;go_in;go_wp2_with(((go_at_call 59;refine cM (HS.o _ eA) ?_;rintro e w1 ⟨r1,r2,rfl,dt,bb,aE⟩;obtain⟨a4,m4,c4,s4,b4,n4,k4,rfl⟩:=dt.form;obtain⟨a5,m5,c5,s5,b5,n5,k5,rfl⟩:=bb.form;obtain⟨⟨d8,ef⟩,fz,fA,fB⟩:=Yb w aE)));have K0:=aE.e ((((eR _).alloc _).alloc _).e (aN w (J #[O a1 n1 m1,O a2 n2 m2,C F lo,C F hi] 138)));obtain⟨W8,aV⟩:=gX (((w1.alloc (J #[O a4 m4 c4,Z s4,O b4 n4 k4] 63)).alloc (J #[O a5 m5 c5,Z s5,O b5 n5 k5] 63)));have ba:Ba w1 W8:=by rw[<-aV];exact((eR _).alloc _).alloc _
 have dh:Ba w W8:=(((((eR w).alloc _).alloc _).alloc _).trans aE).trans ba;have g1:RB W8 w1.heap.size q1:=by rw[<-aV];exact(RB.new dt rfl).ext ((eR _).alloc _)
 have g2:RB W8 (w1.heap.size+1) q2:=by rw[<-aV];exact RB.new (bb.ext ((eR _).alloc _)) sM
 have g3:RB W8 (w.heap.size+1) 0:=(((RB.new (Ab.zero _) sM).ext ((eR _).alloc _)).ext aE).ext ba;have g4:RB W8 (w.heap.size+1+1) 0:=((RB.new (Ab.zero _) sM).ext aE).ext ba;have zW:w1.heap.size+1<W8.heap.size:=by rw[<-aV];simp
 have d2:=Ca (show W8.heap[w1.heap.size+1]?=N (J #[O a5 m5 c5,Z s5,O b5 n5 k5] 63 (0,0)) by rw[<-aV];exact Ec _ _ _ sM) (i:=0) (u:=O a5 m5 c5) rfl;have d3:=Ca (show W8.heap[w1.heap.size+1]?=N (J #[O a5 m5 c5,Z s5,O b5 n5 k5] 63 (0,0)) by rw[<-aV];exact Ec _ _ _ sM) (i:=1) (u:=Z s5) rfl;have d4:=Ca (show W8.heap[w1.heap.size+1]?=N (J #[O a5 m5 c5,Z s5,O b5 n5 k5] 63 (0,0)) by rw[<-aV];exact Ec _ _ _ sM) (i:=2) (u:=O b5 n5 k5) rfl;have HX:=Aa ba;have dR:=Aa dh;rw[aV];obtain⟨s1,du⟩:=gX w1.heap.size;simp only[du]at *;clear aV d8 ef aE ba dh HS du;have K8:=HX.o.e K0;clear K0;obtain⟨k,hk⟩:=gX q2.num.sign;have dN:=Aa (fun(W:X)(v:I)(h:Ab W v q2)=>hk▸jr W v q2 h);rw[hk]at aX;clear hk;have aD:¬k<0:=fun h=>by simp[h]at aX
 have hd:decide (k<0)=false:=by simp[aD]
 rw[hd,Bool.false_or]at aX;obtain⟨c,hc⟩:=gX (Eb q2 (pin:Rat));rw[hc]at aX HC;clear hc;have d7:¬0<c:=by simpa using aX
 refine Kc [(⟨s1+1,0,Y⟩,O a5 m5 c5),(⟨s1+1,1,Y⟩,Z s5),(⟨s1+1,2,Y⟩,O b5 n5 k5)] cA fun g=>?_;have E0:Ba w1 W8.drew:=HX.o.trans (eR W8).drew;refine Db (i:=0) ?_;refine Ub (i:=1) (dN.o _ _ (bb.ext E0)) ?_;rintro e w3 ⟨rfl,ag⟩;refine⟨_,rfl,(cE g ag),fun g=>?_⟩;refine sN 2 ?_
 iterate 4 refine xb ?_
 refine oN ?_;refine Ub (i:=6) (nl _ pin cL cN) ?_;rintro e w4 ⟨r4,rfl,aZ,aQ⟩;obtain⟨a6,m6,c6,s6,b6,n6,k6,rfl⟩:=aZ.form;refine⟨_,rfl,(cE g aQ),fun g=>?_⟩;refine Ub (i:=7) (HC.o _ _ _ (bb.ext (E0.trans (ag.trans aQ))) aZ) ?_;rintro e w5 ⟨rfl,aR⟩;refine⟨_,rfl,(cE g aR),fun g=>?_⟩;refine sN 8 ?_
 iterate 2 refine xb ?_
 refine oN ?_;refine Wb ?_;have X3:Ba W8 w5:=((eR W8).drew).trans (ag.trans (aQ.trans aR));have j1:=g1.ext X3;have j3:=g3.ext X3;have j4:=g4.ext X3;have K5:=X3.e K8;have zX:=X3.size;have X0:=dR.o.trans X3;clear g K8 g1 g2 g3 g4 d2 d3 d4 ag aQ aR aZ E0 hd aD d7 aX;have cZ:=Aa K5;have dQ:=Aa X0;go_wp2;obtain⟨pa,pm,ab,ps,aa,ad,ac,p0,p1,p2,_,_,_,pz,hp⟩:=j1.rd;obtain⟨_,_,_,_,_,_,_,x0,x1,x2,aj,ak,al,xz,_⟩:=j3.rd;obtain⟨_,_,_,_,_,_,_,y0,y1,y2,am,an,ao,yz,_⟩:=j4.rd;refine Kc [(⟨s1,0,Y⟩,O pa pm ab),(⟨s1,1,Y⟩,Z ps),(⟨s1,2,Y⟩,O aa ad ac)] cA fun g=>?_;refine sN 0 ?_
 iterate 2 refine xb ?_
 refine oN ?_;have cJ:∀b,b<s1->∀q∈[((⟨s1,0,Y⟩:D),Value.slice pa pm ab),(⟨s1,1,Y⟩,Z ps),(⟨s1,2,Y⟩,O aa ad ac)],b≠q.1.block:=by
  intro b hb q hq;simp at hq;rcases hq with rfl|rfl|rfl<;>(dsimp only;omega)
 refine Ld (i:=2) fun K l=>?_;go_simp;refine kO l (Da.set3d g (cJ _ oM) _ _ _) (fun g=>?_);clear l K;refine Ld (i:=3) fun K l=>?_;go_simp;refine kO l (Da.set3d g (cJ _ oM) _ _ _) (fun g=>?_);clear l K;refine Wb ?_;obtain⟨W9,r⟩:=gX ((((((((w5.setCell ⟨w.heap.size+1,0,Y⟩ (O pa pm ab)).setCell ⟨w.heap.size+1,1,Y⟩ (Z ps)).setCell ⟨w.heap.size+1,2,Y⟩ (O aa ad ac)).setCell ⟨w.heap.size+1+1,0,Y⟩ (O pa pm ab)).setCell ⟨w.heap.size+1+1,1,Y⟩ (Z ps)).setCell ⟨w.heap.size+1+1,2,Y⟩ (O aa ad ac))).drew);have dg:Ba w W9/\w.heap.size+1+1+1<=W9.heap.size/\W9.heap[w.heap.size]?=N (J #[O a1 n1 m1,O a2 n2 m2,C F lo,C F hi] 138 (0,0))/\RB W9 (w.heap.size+1) q1/\RB W9 (w.heap.size+1+1) q1:=by
  rw[<-r];exact AP dQ.o oM cZ.o j3 j4 hp rfl rfl
 have t:=Aa dg;obtain⟨X9,z9,K9,-,-⟩:=dg;have cj:=Ca K9 (i:=0) (u:=O a1 n1 m1) rfl;have ck:=Ca K9 (i:=1) (u:=O a2 n2 m2) rfl;have cl:=Ca K9 (i:=2) (u:=C F lo) rfl;have cm:=Ca K9 (i:=3) (u:=C F hi) rfl;rw[r];clear r g cJ p0 p1 p2 x0 x1 x2 aj ak al y0 y1 y2 am an ao hp j1 j3 j4 K5 zX X0 X3 cZ K9;go_wp2_with(((go_at_call 105;refine cM (HT.o _ X9) ?_;rintro e w6 ⟨vq,rfl,bq,p⟩;obtain⟨a7,c7,rfl⟩:=bq.rs.form)));obtain⟨n,hn⟩:=gX qs.length;have cf:=bq.rs.le;unfold maxLen at cf;rw[hn]at cf bq HR ⊢;have gl:n<=9223372036854775807:=oM;have Hn:=Aa hn;clear hn;go_loopg [38] n (KQ w s (O a1 n1 m1) (O a2 n2 m2) (O a7 n c7) pin qs (q1,q1))
 case atStart =>
  obtain⟨h1,h2,h3,h4,h5⟩:=t.o;have gm:=p.size;exact⟨0,by omega,rfl,by rw[Hn.o];rfl,h1.trans p,by omega,by rw[cc,cb];exact p.e h3,h4.ext p,h5.ext p,by
   obtain⟨cs,e1,e2,e3⟩:=bq;exact⟨cs,e1.mono oM,e2,e3⟩⟩
 case round =>
  obtain⟨i,ek,rfl,rfl,hI⟩:=hrel;rw[Hn.o]at ek;by_cases en:i<n
  ·obtain⟨y1,y2,y3,y4,y5,y6⟩:=hI;have HI:=Aa (show pj w s (O a1 n1 m1) (O a2 n2 m2) (O a7 n c7) qs (Cb (Ib s pin) qs (q1,q1) i) wr from⟨y1,y2,y3,y4,y5,y6⟩);obtain⟨x,hx⟩:∃x,qs[i]?=N x:=⟨qs[i]'(by rw[Hn.o];exact en),gE _⟩;have aO:=Aa (Hq.o x (lM hx));have Hx:=Aa hx;obtain⟨b7,o7,xa,xm,xc,xs,eE,eG,eF,rfl,d6,dy,eH,eI,eJ⟩:=y6.rs.at' hx;rw[cc,cb]at y3;have cj:=Ca y3 (i:=0) (u:=O a1 n1 m1) rfl;have ck:=Ca y3 (i:=1) (u:=O a2 n2 m2) rfl;have cl:=Ca y3 (i:=2) (u:=C F lo) rfl;have cm:=Ca y3 (i:=3) (u:=C F hi) rfl;have zz:w.heap.size<wr.heap.size:=oM;have Y1:=Aa y1;have da:=Aa dy;have bw:=Aa (show Rb Dc (Tb s x)/\Rb Dc (pin:Rat)from⟨Ug (Rb.gap aO.o bx.o) oM,Ug (Yu (k:=1) Hp.o oM) oM⟩);have dV:=Aa (show (Tb s x-(pin:Rat))=Ib s pin x from rfl);clear y1 y3 y4 y5 y6 t bq cf hx dy;obtain⟨kg,bK⟩:=gX ((Ib s pin x).num.sign);have c8:=Aa (fun(W:X)(v:I)(h:Ab W v (Ib s pin x))=>bK▸jr W v _ h);have el:=Fr (Ib s pin x);rw[bK]at el;obtain⟨oi,cK⟩:=gX (Cb (Ib s pin) qs (q1,q1) i);have hN:=sL (f:=Ib s pin) (o:=(q1,q1)) Hx.o;rw[cK]at hN HI;obtain⟨o1,cg⟩:=gX (Qb (Ib s pin) oi x);rw[cg]at hN;have HN:=Aa hN;have ci:=cg.symm;unfold Qb at ci;rw[bK]at ci;have b3:=Aa (show Rb 300 oi.1/\Rb 300 oi.2 by rw[<-cK];exact Rb.reach_n ⟨cq.o.up dM,cq.o.up dM⟩ Hq.o (fun q hq=>Rb.pin_g (Hq.o q hq) bx.o Hp.o) i (by rw[Hn.o];omega));have ca:=Aa ci;have cp:=Aa (show Rb 300 o1.1/\Rb 300 o1.2 by rw[<-cg];unfold Qb;split;exact Rb.wid b3.o (aO.o.up dM);exact b3.o);have dS:=Aa bK;clear bK cK ci cg hN;have cz:=Aa (show ∀q∈[oi.1,x],Rb Dc q from fun q hq=>by rcases List.mem_cons.1 hq with rfl|hq;exact Ug b3.o.1 oM;rw[List.mem_singleton.1 hq];exact Ug aO.o oM);have cB:=Aa (show ∀q∈[oi.2,x],Rb Dc q from fun q hq=>by rcases List.mem_cons.1 hq with rfl|hq;exact Ug b3.o.2 oM;rw[List.mem_singleton.1 hq];exact Ug aO.o oM);go_upto_if 51 with (first|(go_at_call 133;refine cM (HG.o _ ?_ (E #[O xa xm xc,Z xs,O eE eG eF]) x ?_ aO.o) ?_;(refine Y1.o.trans ?_;exact eA);(refine da.o.ext ?_;exact eA);rintro e w2 ⟨r2,rfl,bb,bW⟩;obtain⟨fG,gq,f8,gK,f0,gw,gn,rfl⟩:=bb.form;obtain⟨⟨d9,eg⟩,fC⟩:=Md w bW)|(go_at_call 85;(with_reducible refine(nl _ pin cL cN).mono ?_);rintro e w3 ⟨r3,rfl,cP,ag⟩;obtain⟨fH,gr,f9,gL,f3,gx,go,rfl⟩:=cP.form;obtain⟨⟨eb,eh⟩,fD⟩:=Md w ag)|(go_at_call 115;(with_reducible refine(Pp _ _ _ (Tb s x) (pin:Rat) (bb.ext ag) cP bw.o.1 bw.o.2).mono ?_);rintro e w4 ⟨r4,rfl,aZ,aQ⟩;rw[dV.o]at aZ;obtain⟨fI,gs,ga,gM,f4,gy,gp,rfl⟩:=aZ.form;obtain⟨⟨ed,ei⟩,fE⟩:=Md w aQ)|(go_at_call 93;refine cM (c8.o _ _ (aZ.ext eA)) ?_;rintro e w5 ⟨rfl,aR⟩;obtain⟨⟨ee,ej⟩,fF⟩:=Md w aR));have ah:RB w5 wr.heap.size x:=(((((RB.new da.o rfl).ext bW).ext ag).ext aQ).ext ((eR _).alloc _)).ext aR;have ae:RB w5 w4.heap.size (Ib s pin x):=(RB.new aZ rfl).ext aR;have X5:Ba wr w5:=(((((((eR wr).alloc _).trans bW).trans ag).trans aQ).alloc _).trans aR);have G:=HI.o.ext X5;obtain⟨bh,bI⟩:=gX w4.heap.size;obtain⟨aU,bH⟩:=gX wr.heap.size;rw[bI]at ae;rw[bH]at ah;have ep:w.heap.size+1+1+1<=aU/\aU<bh/\bh<w5.heap.size:=by
    have q1:=bW.size;have q2:=ag.size;have q3:=aQ.size;have q4:=aR.size;simp only[wZ]at q1 q4;have q5:=HI.o.2.1;omega
   obtain⟨z1,z2,z3⟩:=ep;simp only[bH,bI];clear bW ag aQ aR bb cP aZ bH bI d9 eg eb eh ed ei ee ej eH eI eJ d6 cj ck cl cm zz;go_cut [10,11,12] (Yx w s (O a1 n1 m1) (O a2 n2 m2) (O (N ⟨b7,o7,Y⟩) n c7) qs o1 i x (Ib s pin x))
   case first =>
    by_cases hk:kg<=0
    ·go_wp2;obtain⟨pa,pm,ab,ps,aa,ad,ac,p0,p1,p2,bY,bZ,b0,pz,bn⟩:=(G.2.2.2.1).rd;obtain⟨ea,em,ec,es,ax,az,ay,e0,e1,e2,bA,bB,bC,ez,bm⟩:=(G.2.2.2.2.1).rd;obtain⟨ua,um,uc,us,a0,a8,a3,u0,u1,u2,eu,ev,ew,uz,bc⟩:=(ah).rd;have z:=Aa G;have b1:=Aa (ah);have Q:=Aa ae;have bf:=Aa bn;have be:=Aa bm;have ai:=Aa bc;clear G ah ae bn bm bc;have D0:Ba w5 w5.drew:=(eR _).drew;refine Nh (fun i=>decide (7<i)) (Da [(⟨w.heap.size+1,0,Y⟩,O pa pm ab),(⟨w.heap.size+1,1,Y⟩,Z ps),(⟨w.heap.size+1,2,Y⟩,O aa ad ac),(⟨w.heap.size+1+1,0,Y⟩,O ea em ec),(⟨w.heap.size+1+1,1,Y⟩,Z es),(⟨w.heap.size+1+1,2,Y⟩,O ax az ay),(⟨aU,0,Y⟩,O ua um uc),(⟨aU,1,Y⟩,Z us),(⟨aU,2,Y⟩,O a0 a8 a3)]) kM ?_ (fun g=>?_)
     ·exact cA
     refine sN 0 ?_
     (iterate 2 refine Yh ?_);refine oN ?_;refine sN 4 ?_
     (iterate 2 refine Yh ?_);refine oN ?_;refine Tg (i:=2) (j:=6) (fun K l=>?h1k1w1) (fun K l=>?h2k1w1)
     case h1k1w1 =>
      go_simp;refine kO l (fun _=>cE g ((eR _).alloc _)) (fun g=>?_);clear l K;have g:=g rfl;refine Tg (i:=3) (j:=6) (fun K l=>?h1k2w1) (fun K l=>?h2k2w1)
      case h1k2w1 =>
       go_simp;(with_reducible refine cM (Qp _ _ [oi.1,x] ((ol w5 rfl bf.o ai.o).f (eR _).drew) cz.o) ?_);rintro e w6 ⟨r6,rfl,S,p⟩;obtain⟨ap,aH,av,aL,ar,aJ,aF,rfl⟩:=S.form;go_wp2;refine kO l (fun _=>cE g p) (fun g=>?_);clear l K;have g:=g rfl;have P:Ba w5 w6:=(((eR w5).alloc _).drew).trans p;refine Jc (i:=6) fun K l=>?_;go_simp;refine kO l (fun _=>cE g ((eR _).alloc _)) (fun g=>?_);clear l K;have g:=g rfl;refine Wh (i:=7) (Rp _ _ [oi.2,x] (ol w6 rfl (be.o.ext P) (ai.o.ext P)) cB.o) ?_;rintro e w7 ⟨r7,rfl,T,m⟩;obtain⟨aq,aI,aw,aM,au,aK,aG,rfl⟩:=T.form;refine⟨_,rfl,(cE g m),fun g=>?_⟩;obtain⟨_,_,_,_,_,_,_,x0,x1,x2,aj,ak,al,xz,_⟩:=((z.o.ext ((P.alloc _).trans m)).2.2.2.1).rd;obtain⟨_,_,_,_,_,_,_,y0,y1,y2,am,an,ao,yz,_⟩:=((z.o.ext ((P.alloc _).trans m)).2.2.2.2.1).rd;refine Jc (i:=8) fun K l=>?_;go_simp;refine kO l (fun h=>nomatch h) (fun g=>?_);clear l K;refine Jc (i:=9) fun K l=>?_;go_simp;refine kO l (fun h=>nomatch h) (fun g=>?_);clear l K;refine Kb kM ?_ _;have t:=Wv (i:=i) (z.o.ext ((P.alloc _).trans m)) ((S.ext ((eR _).alloc _)).ext m) T z1 z2 (Nat.lt_of_lt_of_le z3 ((P.alloc _).trans m).size) (b1.o.ext ((P.alloc _).trans m)) (Q.o.ext ((P.alloc _).trans m)) rfl rfl;obtain⟨W9,r⟩:=gX (((((((w7.setCell ⟨w.heap.size+1,0,Y⟩ (O ap aH av)).setCell ⟨w.heap.size+1,1,Y⟩ (Z aL)).setCell ⟨w.heap.size+1,2,Y⟩ (O ar aJ aF)).setCell ⟨w.heap.size+1+1,0,Y⟩ (O aq aI aw)).setCell ⟨w.heap.size+1+1,1,Y⟩ (Z aM)).setCell ⟨w.heap.size+1+1,2,Y⟩ (O au aK aG)));rw[r]at t ⊢;have t:=Aa t;clear r x0 x1 x2 aj ak al y0 y1 y2 am an ao g;go_wp2;go_meet;rw[ca.o,if_pos hk];exact t.o
      case h2k2w1 =>
       go_simp;refine kO l (fun _=>cE g ((eR _).alloc _)) (fun g=>?_);clear l K;have g:=g rfl;refine Wh (i:=3) (Qp _ _ [oi.1,x] ((ol w5 rfl bf.o ai.o).f ((eR _).alloc _).drew) cz.o) ?_;rintro e w6 ⟨r6,rfl,S,p⟩;obtain⟨ap,aH,av,aL,ar,aJ,aF,rfl⟩:=S.form;refine⟨_,rfl,(cE g p),fun g=>?_⟩;have P:Ba w5 w6:=((((eR w5).alloc _).alloc _).drew).trans p;have R2:=(((ol _ (b:=w5.heap.size+1) sM (be.o.ext ((eR w5).alloc (J #[O pa pm ab,Z ps,O aa ad ac,O ua um uc,Z us,O a0 a8 a3] 63))) (ai.o.ext ((eR w5).alloc _))).f (eR _).drew).f p);refine Wh (i:=7) (Rp _ _ [oi.2,x] R2 cB.o) ?_;rintro e w7 ⟨r7,rfl,T,m⟩;obtain⟨aq,aI,aw,aM,au,aK,aG,rfl⟩:=T.form;refine⟨_,rfl,(cE g m),fun g=>?_⟩;obtain⟨_,_,_,_,_,_,_,x0,x1,x2,aj,ak,al,xz,_⟩:=((z.o.ext (P.trans m)).2.2.2.1).rd;obtain⟨_,_,_,_,_,_,_,y0,y1,y2,am,an,ao,yz,_⟩:=((z.o.ext (P.trans m)).2.2.2.2.1).rd;refine Jc (i:=8) fun K l=>?_;go_simp;refine kO l (fun h=>nomatch h) (fun g=>?_);clear l K;refine Jc (i:=9) fun K l=>?_;go_simp;refine kO l (fun h=>nomatch h) (fun g=>?_);clear l K;refine Kb kM ?_ _;have t:=Wv (i:=i) (z.o.ext (P.trans m)) (S.ext m) T z1 z2 (Nat.lt_of_lt_of_le z3 (P.trans m).size) (b1.o.ext (P.trans m)) (Q.o.ext (P.trans m)) rfl rfl;obtain⟨W9,r⟩:=gX (((((((w7.setCell ⟨w.heap.size+1,0,Y⟩ (O ap aH av)).setCell ⟨w.heap.size+1,1,Y⟩ (Z aL)).setCell ⟨w.heap.size+1,2,Y⟩ (O ar aJ aF)).setCell ⟨w.heap.size+1+1,0,Y⟩ (O aq aI aw)).setCell ⟨w.heap.size+1+1,1,Y⟩ (Z aM)).setCell ⟨w.heap.size+1+1,2,Y⟩ (O au aK aG)));rw[r]at t ⊢;have t:=Aa t;clear r x0 x1 x2 aj ak al y0 y1 y2 am an ao g;go_wp2;go_meet;rw[ca.o,if_pos hk];exact t.o
     case h2k1w1 =>
      go_simp;refine kO l (fun _=>cE g ((eR _).alloc _)) (fun g=>?_);clear l K;have g:=g rfl;refine Jc (i:=2) fun K l=>?_;go_simp;refine kO l (fun _=>cE g ((eR _).alloc _)) (fun g=>?_);clear l K;have g:=g rfl;have R1:=((ol _ (b:=w5.heap.size+1) sM (bf.o.ext ((eR w5).alloc (J #[O ea em ec,Z es,O ax az ay,O ua um uc,Z us,O a0 a8 a3] 63))) (ai.o.ext ((eR w5).alloc _))).f (eR _).drew);refine Wh (i:=3) (Qp _ _ [oi.1,x] R1 cz.o) ?_;rintro e w6 ⟨r6,rfl,S,p⟩;obtain⟨ap,aH,av,aL,ar,aJ,aF,rfl⟩:=S.form;refine⟨_,rfl,(cE g p),fun g=>?_⟩;have P:Ba w5 w6:=((((eR w5).alloc _).alloc _).drew).trans p;refine Wh (i:=7) (Rp _ _ [oi.2,x] (((ol w5 rfl be.o ai.o).f ((eR _).alloc _).drew).f p) cB.o) ?_;rintro e w7 ⟨r7,rfl,T,m⟩;obtain⟨aq,aI,aw,aM,au,aK,aG,rfl⟩:=T.form;refine⟨_,rfl,(cE g m),fun g=>?_⟩;obtain⟨_,_,_,_,_,_,_,x0,x1,x2,aj,ak,al,xz,_⟩:=((z.o.ext (P.trans m)).2.2.2.1).rd;obtain⟨_,_,_,_,_,_,_,y0,y1,y2,am,an,ao,yz,_⟩:=((z.o.ext (P.trans m)).2.2.2.2.1).rd;refine Jc (i:=8) fun K l=>?_;go_simp;refine kO l (fun h=>nomatch h) (fun g=>?_);clear l K;refine Jc (i:=9) fun K l=>?_;go_simp;refine kO l (fun h=>nomatch h) (fun g=>?_);clear l K;refine Kb kM ?_ _;have t:=Wv (i:=i) (z.o.ext (P.trans m)) (S.ext m) T z1 z2 (Nat.lt_of_lt_of_le z3 (P.trans m).size) (b1.o.ext (P.trans m)) (Q.o.ext (P.trans m)) rfl rfl;obtain⟨W9,r⟩:=gX (((((((w7.setCell ⟨w.heap.size+1,0,Y⟩ (O ap aH av)).setCell ⟨w.heap.size+1,1,Y⟩ (Z aL)).setCell ⟨w.heap.size+1,2,Y⟩ (O ar aJ aF)).setCell ⟨w.heap.size+1+1,0,Y⟩ (O aq aI aw)).setCell ⟨w.heap.size+1+1,1,Y⟩ (Z aM)).setCell ⟨w.heap.size+1+1,2,Y⟩ (O au aK aG)));rw[r]at t ⊢;have t:=Aa t;clear r x0 x1 x2 aj ak al y0 y1 y2 am an ao g;go_wp2;go_meet;rw[ca.o,if_pos hk];exact t.o
    ·go_wp2;go_meet;rw[ca.o,if_neg oM];exact⟨aU,bh,rfl,rfl,rfl,z1,z2,z3,G,ah,ae⟩
   case rest =>
    clear ah ae G X5 z1 z2 z3 aU bh;obtain⟨aU,bh,rfl,rfl,rfl,z1,z2,z3,G,ah,ae⟩:=hcut;by_cases dn:i=0
    ·subst dn;go_wp2;go_roundg (n-(0+1))
     case measure=>have:=Hn.o;omega
     case rel=>exact⟨1,by rw[Hn.o];omega,by go_num,by rw[Hn.o],by have e:Cb (Ib s pin) qs (q1,q1) 1=o1:=HN.o.trans (if_pos trivial);rw[e];exact G⟩
    ·(have gg:((i:Int)==0)=false:=by simpa using dn);go_upto_region 13 with fail;obtain⟨j,rfl⟩:∃j,i=j+1:=⟨i-1,by omega⟩;obtain⟨y,hy⟩:∃y,qs[j]?=N y:=⟨qs[j]'(by rw[Hn.o];omega),gE _⟩;have bg:=Aa (Hq.o y (lM hy));have Hy:=Aa hy;have cx:=Aa (show Rb Dc (Tb s y)from Ug (Rb.gap bg.o bx.o) oM);obtain⟨b8,o8,ya,ym,yc,ys,dD,dF,dE,h8,ge,dz,eK,eL,eM⟩:=G.2.2.2.2.2.rs.at' hy;cases h8;have bp:=G.2.2.1;rw[cc,cb]at bp;have cj:=Ca bp (i:=0) (u:=O a1 n1 m1) rfl;have ck:=Ca bp (i:=1) (u:=O a2 n2 m2) rfl;have cl:=Ca bp (i:=2) (u:=C F lo) rfl;have cm:=Ca bp (i:=3) (u:=C F hi) rfl;have Yc:=Aa (G.1);have dY:=Aa dz;have cX:=Aa G;have a9:=Aa ah;have Q:=Aa ae;have gi:wrap64 (((j+1:Nat):Int)-1)=(j:Int):=by
      rw[IntWalk.wrap64_in _ oM];omega
     have gh:IntKind.i64.wrap ((j:Nat):Int)=(j:Int):=iW _ ⟨by omega,by omega⟩;have gT:(0:Int)<=(j:Int):=oM;have gU:(j:Int)<(n:Int):=oM;have gV:j<n:=oM;clear G ah ae bp dz hy;go_cut [10,11,12,13] (Xx w s (O a1 n1 m1) (O a2 n2 m2) (O (N ⟨b7,o7,Y⟩) n c7) qs o1 (j+1) x (Ib s pin x) (Ib s pin y))
     case first =>
      (have C9:Da [(⟨w.heap.size,0,Y⟩,O a1 n1 m1),(⟨w.heap.size,1,Y⟩,O a2 n2 m2),(⟨w.heap.size,2,Y⟩,C F lo),(⟨w.heap.size,3,Y⟩,C F hi),(⟨b7,o7+j*3,Y⟩,O ya ym yc),(⟨b7,o7+j*3+1,Y⟩,Z ys),(⟨b7,o7+j*3+2,Y⟩,O dD dF dE)] wc.drew:=by refine⟨?_,?_,?_,?_,?_,?_,?_,trivial⟩<;>go_simp);refine Vn [(10,13,J #[O Y 0 0,Z false,O Y 0 0] 63 (0,0))] _ 11 8 (fun i=>decide (10<i)) (fun _=>false) kM kM kM sM kM (by intro x hx;simp only[List.mem_cons,List.not_mem_nil,or_false]at hx;rcases hx with rfl<;>exact⟨_,rfl,rfl,fun a W=>by go_simp⟩) (fun _ _ d _ _ h=>by cases d<;>exact h) C9 (fun g=>?_);refine Wd (i:=0) ?_;refine Wd (i:=1) ?_;refine Wd (i:=2) ?_;refine Wd (i:=3) ?_;refine Wd (i:=4) ?_;refine Wd (i:=5) ?_;refine Wd (i:=7) ?_;have dH:=Aa (fun(W:X)(hW:Ba wc W)=>HG.o W (Yc.o.trans hW) (E #[O ya ym yc,Z ys,O dD dF dE]) y (dY.o.ext hW) bg.o);refine Gh (i:=6) fun W6 di bG af K l=>?_;go_simp;refine cM (dH.o W6 ((eR wc).drew.trans bG)) ?_;rintro e w6 ⟨gF,rfl,bQ,p⟩;obtain⟨fJ,gt,gb,gN,f5,gz,fo,rfl⟩:=bQ.form;go_wp2;refine kO l (.of bG p) (fun _ _=>?_);clear l K af;refine Gh (i:=8) fun W8 bo aC af K l=>?_;go_simp;(with_reducible refine cM (nl W8 pin cL cN) ?_);rintro e w8 ⟨gG,rfl,bT,br⟩;obtain⟨fK,gu,gc,gO,f6,gB,fp,rfl⟩:=bT.form;go_wp2;refine kO l (.of aC br) (fun _ _=>?_);clear l K af;refine Gh (i:=9) fun W9 aS aT af K l=>?_;go_simp;(with_reducible refine cM (Pp W9 _ _ (Tb s y) (pin:Rat) (bQ.ext (bo.trans (br.trans aS))) (bT.ext aS) cx.o bw.o.2) ?_);rintro e w9 ⟨gH,rfl,bU,bX⟩;obtain⟨fL,gv,gd,gP,f7,gC,fq,rfl⟩:=bU.form;go_wp2;refine kO l (.of aT bX) (fun _ _=>?_);clear l K af;refine df kM (fun bz aA aB=>?_);intro aP bs dB _ _;have X9:Ba wc bz:=(eR wc).drew.trans aB;have bP:=bU.ext aA;have dd:RB bz aP 0:=⟨_,_,_,_,_,_,_,bs,Ab.zero _⟩;(have fx:wc.heap.size<=aP:=by simpa using dB);have cW:=Gb bs;have dj:bh<aP:=oM;have q0:=Ca bs (i:=0) (u:=O Y 0 0) rfl;have cU:=Ca bs (i:=1) (u:=Z false) rfl;have cV:=Ca bs (i:=2) (u:=O Y 0 0) rfl;have qf:=Ua bs;clear di p bo br aS bX aA bQ bT bU bG aC aT;refine Ld (i:=11) fun K l=>?_;go_simp;refine kO l (cE g (by(repeat refine Ba.set ?_ (by exact dB) _);exact aB)) (fun d5=>?_);clear l K;refine Wb ?_;have t:=AA (i:=j+1) (cX.o.ext X9) bP z1 z2 dj cW (a9.o.ext X9) (Q.o.ext X9) dd (by simp only[Value.ownBlock,ne_eq,Option.some.injEq];omega) rfl;have t:=Aa t;clear g q0 cU cV qf;go_wp2;go_meet;exact t.o
     case rest =>
      clear z1 z2 z3 a9 Q cX eK eL eM cj ck cl cm;obtain⟨aP,⟨cF,bj,rfl,rfl,rfl,z1,z2,z3,G,ah,ae⟩,rfl,cW,cu⟩:=hcut;obtain⟨pa,pm,ab,ps,aa,ad,ac,p0,p1,p2,bY,bZ,b0,pz,bn⟩:=ae.rd;obtain⟨ea,em,ec,es,ax,az,ay,e0,e1,e2,bA,bB,bC,ez,bm⟩:=cu.rd;obtain⟨kh,ce⟩:=gX ((Ib s pin y).num.sign);have dP:=Aa (fun(W:X)(v:I)(h:Ab W v (Ib s pin y))=>ce▸jr W v _ h);have dp:=Fr (Ib s pin y);rw[ce]at dp;have dU:=Aa ce;clear ce;obtain⟨km,cI⟩:=gX (kg*kh);have fm:-1<=km/\km<=1:=by
       have a1:kg = -1\/kg=0\/kg=1:=oM;have a2:kh = -1\/kh=0\/kh=1:=oM;rcases a1 with rfl|rfl|rfl<;>rcases a2 with rfl|rfl|rfl<;>omega
      (have gk:IntKind.i64.wrap (kg*kh)=km:=by rw[cI];exact iW _ ⟨by omega,by omega⟩);(have fn:wrap64 (kg*kh)=km:=by rw[cI];exact IntWalk.wrap64_in _ ⟨by omega,by omega⟩);have gj:IntKind.i64.wrap km=km:=iW _ ⟨by omega,by omega⟩;have c3:=Aa (show Cb (Ib s pin) qs (q1,q1) (j+1+1)=if km<0 then ue o1 (Td (Ib s pin) y x)else o1 by
       have e:=HN.o;rw[if_neg oM]at e;rw[e,show qs.getD (j+1-1) 0=y by rw[Nat.add_sub_cancel,gD,Hy.o];rfl];unfold je;rw[dS.o,dU.o,cI])
      go_wp2;refine Kc [(⟨bj,0,Y⟩,O pa pm ab),(⟨bj,1,Y⟩,Z ps),(⟨bj,2,Y⟩,O aa ad ac),(⟨aP,0,Y⟩,O ea em ec),(⟨aP,1,Y⟩,Z es),(⟨aP,2,Y⟩,O ax az ay)] cA fun g=>?_;have E1:Ba wc wc.drew:=(eR _).drew;refine Db (i:=0) ?_;refine Db (i:=2) ?_;refine Ub (i:=1) (c8.o _ _ (bn.ext E1)) ?_;rintro e w1 ⟨rfl,aE⟩;refine⟨_,rfl,(cE g aE),fun g=>?_⟩;refine Ub (i:=3) (dP.o _ _ (bm.ext (E1.trans aE))) ?_;rintro e w3 ⟨rfl,ag⟩;refine⟨_,rfl,(cE g ag),fun g=>?_⟩;refine sN 4 ?_
      (iterate 2 refine xb ?_);refine oN ?_;refine Wb ?_;have X3:Ba wc w3:=E1.trans (aE.trans ag);have G3:=G.ext X3;clear g p0 p1 p2 bY bZ b0 e0 e1 e2 bA bB bC;by_cases aD:km<0
      ·(have eo:decide (km<0)=true:=by simpa using aD);have dx:=X3.size;have bu:=ah.ext X3;have bv:=ae.ext X3;have cn:=cu.ext X3;obtain⟨ua,um,uc,us,a0,a8,a3,u0,u1,u2,_,_,_,uz,bc⟩:=bu.rd;obtain⟨va,vm,vc,vs,eB,eD,eC,v0,ex,ey,_,_,_,vz,dw⟩:=bv.rd;obtain⟨ta,tm,tc,ts,eq,et,er,t0,t1,t2,_,_,_,tz,cS⟩:=cn.rd;obtain⟨b9,o9,za,zm,zc,zs,eN,eP,eO,h9,gf,cT,eQ,eU,eV⟩:=G3.2.2.2.2.2.rs.at' Hy.o;cases h9;have cY:=Aa G3;have a9:=Aa bu;have Q:=Aa bv;have bJ:Rb 47 (Ib s pin y):=Rb.pin_g bg.o bx.o Hp.o;have cd:Rb 47 (Ib s pin x):=Rb.pin_g aO.o bx.o Hp.o;have cG:Rb 95 (Ib s pin y-Ib s pin x):=bJ.sub cd;have cH:Rb 142 (Ib s pin y/(Ib s pin y-Ib s pin x)):=bJ.div cG dM;have dm:Rb 145 (Ib s pin y/(Ib s pin y-Ib s pin x)*(x-y)):=cH.mul (aO.o.sub bg.o);have c2:=Aa (show Rb Dc (Ib s pin y)from Ug bJ oM);have dL:=Aa (show Rb Dc (Ib s pin x)from Ug cd oM);have dI:=Aa (show Rb Dc (Ib s pin y-Ib s pin x)from Ug cG oM);have dK:=Aa (show Rb Dc (Ib s pin y/(Ib s pin y-Ib s pin x))from Ug cH oM);have dJ:=Aa (show Rb Dc (Ib s pin y/(Ib s pin y-Ib s pin x)*(x-y))from Ug dm oM);have c1:=Aa (show Rb Dc (x-y)from Ug (aO.o.sub bg.o) oM);have c0:=Aa (show Rb Dc x from Ug aO.o oM);have co:=Aa (show Rb Dc y from Ug bg.o oM);have b2:=Aa (show Cb (Ib s pin) qs (q1,q1) (j+1+1)=ue o1 (Td (Ib s pin) y x) by rw[c3.o,if_pos aD]);have cy:=Aa (show Rb 291 (Td (Ib s pin) y x)from Rb.cross bg.o aO.o bJ cd);clear G3 bu bv cn bJ cd cG cH dm ah ae cu G aE ag;go_upto_region 15 with fail;go_cut [10,11,12,14] (Xx w s (O a1 n1 m1) (O a2 n2 m2) (O (N ⟨b7,o7,Y⟩) n c7) qs o1 (j+1) x (Ib s pin x) (Td (Ib s pin) y x))
       case first =>
        (have C9:Da [(⟨b7,o7+j*3,Y⟩,O za zm zc),(⟨b7,o7+j*3+1,Y⟩,Z zs),(⟨b7,o7+j*3+2,Y⟩,O eN eP eO),(⟨aP,0,Y⟩,O ta tm tc),(⟨aP,1,Y⟩,Z ts),(⟨aP,2,Y⟩,O eq et er),(⟨bj,0,Y⟩,O va vm vc),(⟨bj,1,Y⟩,Z vs),(⟨bj,2,Y⟩,O eB eD eC),(⟨cF,0,Y⟩,O ua um uc),(⟨cF,1,Y⟩,Z us),(⟨cF,2,Y⟩,O a0 a8 a3)] w3.drew:=by refine⟨?_,?_,?_,?_,?_,?_,?_,?_,?_,?_,?_,?_,trivial⟩<;>go_simp);refine Vn [(19,14,J #[O Y 0 0,Z false,O Y 0 0] 63 (0,0))] _ 20 8 (fun i=>decide (19<i)) (fun _=>false) kM kM kM sM kM (by intro x hx;simp only[List.mem_cons,List.not_mem_nil,or_false]at hx;rcases hx with rfl<;>exact⟨_,rfl,rfl,fun a W=>by go_simp⟩) (fun _ _ d _ _ h=>by cases d<;>exact h) C9 (fun g=>?_);refine Wd (i:=0) ?_;refine Wd (i:=1) ?_;refine Wd (i:=2) ?_;refine Wd (i:=3) ?_;refine Wd (i:=4) ?_;refine Wd (i:=5) ?_;refine Wd (i:=6) ?_;refine Wd (i:=7) ?_;refine Wd (i:=10) ?_;refine Wd (i:=11) ?_;refine Wd (i:=12) ?_;refine Wd (i:=13) ?_;refine Wd (i:=14) ?_;refine Wd (i:=15) ?_;refine Gh (i:=8) fun W8 bo aC af K l=>?_;go_simp;(with_reducible refine cM (Pp W8 _ _ (Ib s pin y) (Ib s pin x) (cS.ext ((eR w3).drew.trans aC)) (dw.ext ((eR w3).drew.trans aC)) c2.o dL.o) ?_);rintro e gQ ⟨gI,rfl,cQ,br⟩;obtain⟨fM,fU,fQ,fY,fO,fW,fS,rfl⟩:=cQ.form;go_wp2;refine kO l (.of aC br) (fun _ _=>?_);clear l K af;refine Gh (i:=9) fun W9 aS aT af K l=>?_;go_simp;(with_reducible refine cM (GC W9 _ _ (Ib s pin y) ((Ib s pin y)-(Ib s pin x)) (cS.ext ((eR w3).drew.trans aT)) (cQ.ext aS) c2.o dI.o) ?_);rintro e gR ⟨gJ,rfl,cR,bX⟩;obtain⟨fN,fV,fR,fZ,fP,fX,fT,rfl⟩:=cR.form;go_wp2;refine kO l (.of aT bX) (fun _ _=>?_);clear l K af;refine Gh (i:=16) fun dZ bD aW af K l=>?_;go_simp;(with_reducible refine cM (Pp dZ _ _ x y (bc.ext ((eR w3).drew.trans aW)) (cT.ext ((eR w3).drew.trans aW)) c0.o co.o) ?_);rintro e fu ⟨fr,rfl,bM,bV⟩;obtain⟨eW,fd,e7,fj,e4,fg,fa,rfl⟩:=bM.form;go_wp2;refine kO l (.of aW bV) (fun _ _=>?_);clear l K af;refine Gh (i:=17) fun d0 bk bF af K l=>?_;go_simp;(with_reducible refine cM (nB d0 _ _ ((Ib s pin y)/((Ib s pin y)-(Ib s pin x))) (x-y) (cR.ext (bD.trans (bV.trans bk))) (bM.ext bk) dK.o c1.o) ?_);rintro e fv ⟨fs,rfl,bN,cr⟩;obtain⟨eY,fe,e8,fk,e5,fh,fb,rfl⟩:=bN.form;go_wp2;refine kO l (.of bF cr) (fun _ _=>?_);clear l K af;refine Gh (i:=18) fun d1 bE bl af K l=>?_;go_simp;(with_reducible refine cM (ow d1 _ _ y ((Ib s pin y)/((Ib s pin y)-(Ib s pin x))*(x-y)) (cT.ext ((eR w3).drew.trans bl)) (bN.ext bE) co.o dJ.o) ?_);rintro e fw ⟨ft,rfl,bO,ct⟩;obtain⟨eZ,ff,e9,fl,e6,fi,fc,rfl⟩:=bO.form;go_wp2;refine kO l (.of bl ct) (fun _ _=>?_);clear l K af;refine df kM (fun bz aA aB=>?_);intro bi bt dC _ _;have X9:Ba w3 bz:=(eR w3).drew.trans aB;have bP:=bO.ext aA;have de:RB bz bi 0:=⟨_,_,_,_,_,_,_,bt,Ab.zero _⟩;(have fy:w3.heap.size<=bi:=by simpa using dC);have dG:=Gb bt;(have dk:bj<bi:=by obtain⟨_,_,_,_,_,_,_,_,_,_,_,_,_,qz,_⟩:=Q.o.rd;omega);have q0:=Ca bt (i:=0) (u:=O Y 0 0) rfl;have cU:=Ca bt (i:=1) (u:=Z false) rfl;have cV:=Ca bt (i:=2) (u:=O Y 0 0) rfl;have qf:=Ua bt;clear bo br aS bX bD bV bk cr bE ct aA cQ cR bM bN bO aC aT aW bF bl;refine Ld (i:=20) fun K l=>?_;go_simp;refine kO l (cE g (by(repeat refine Ba.set ?_ (by exact dC) _);exact aB)) (fun d5=>?_);clear l K;refine Wb ?_;have t:=AA (i:=j+1) (cY.o.ext X9) bP z1 z2 dk dG (a9.o.ext X9) (Q.o.ext X9) de (by simp only[Value.ownBlock,ne_eq,Option.some.injEq];omega) rfl;have t:=Aa t;clear g q0 cU cV qf;go_wp2;go_meet;exact t.o
       case rest =>
        clear z1 z2 z3 a9 Q cY eQ eU eV u0 u1 u2 v0 ex ey t0 t1 t2 bc dw cS cT X3 cW dx;obtain⟨bi,⟨aU,bh,rfl,rfl,rfl,z1,z2,z3,G,ah,ae⟩,rfl,dG,cw⟩:=hcut;obtain⟨cv,dl⟩:=gX (Td (Ib s pin) y x);rw[dl]at b2 cy cw;clear dl;have cC:=Aa (show ∀q∈[o1.1,cv],Rb Dc q from fun q hq=>by rcases List.mem_cons.1 hq with rfl|hq;exact Ug cp.o.1 oM;rw[List.mem_singleton.1 hq];exact Ug cy.o oM);have cD:=Aa (show ∀q∈[o1.2,cv],Rb Dc q from fun q hq=>by rcases List.mem_cons.1 hq with rfl|hq;exact Ug cp.o.2 oM;rw[List.mem_singleton.1 hq];exact Ug cy.o oM);go_wp2;obtain⟨pa,pm,ab,ps,aa,ad,ac,p0,p1,p2,bY,bZ,b0,pz,bn⟩:=(G.2.2.2.1).rd;obtain⟨ea,em,ec,es,ax,az,ay,e0,e1,e2,bA,bB,bC,ez,bm⟩:=(G.2.2.2.2.1).rd;obtain⟨ua,um,uc,us,a0,a8,a3,u0,u1,u2,eu,ev,ew,uz,bc⟩:=(cw).rd;have z:=Aa G;have b1:=Aa (cw);have Q:=Aa ae;have bf:=Aa bn;have be:=Aa bm;have ai:=Aa bc;clear G ah ae bn bm bc;have D0:Ba wc wc.drew:=(eR _).drew;refine Nh (fun i=>decide (7<i)) (Da [(⟨w.heap.size+1,0,Y⟩,O pa pm ab),(⟨w.heap.size+1,1,Y⟩,Z ps),(⟨w.heap.size+1,2,Y⟩,O aa ad ac),(⟨w.heap.size+1+1,0,Y⟩,O ea em ec),(⟨w.heap.size+1+1,1,Y⟩,Z es),(⟨w.heap.size+1+1,2,Y⟩,O ax az ay),(⟨bi,0,Y⟩,O ua um uc),(⟨bi,1,Y⟩,Z us),(⟨bi,2,Y⟩,O a0 a8 a3)]) kM ?_ (fun g=>?_)
        ·exact cA
        refine sN 0 ?_
        (iterate 2 refine Yh ?_);refine oN ?_;refine sN 4 ?_
        (iterate 2 refine Yh ?_);refine oN ?_;refine Tg (i:=2) (j:=6) (fun K l=>?h1k1xx1) (fun K l=>?h2k1xx1)
        case h1k1xx1 =>
         go_simp;refine kO l (fun _=>cE g ((eR _).alloc _)) (fun g=>?_);clear l K;have g:=g rfl;refine Tg (i:=3) (j:=6) (fun K l=>?h1k2xx1) (fun K l=>?h2k2xx1)
         case h1k2xx1 =>
          go_simp;(with_reducible refine cM (Qp _ _ [o1.1,cv] ((ol wc rfl bf.o ai.o).f (eR _).drew) cC.o) ?_);rintro e w6 ⟨r6,rfl,S,p⟩;obtain⟨ap,aH,av,aL,ar,aJ,aF,rfl⟩:=S.form;go_wp2;refine kO l (fun _=>cE g p) (fun g=>?_);clear l K;have g:=g rfl;have P:Ba wc w6:=(((eR wc).alloc _).drew).trans p;refine Jc (i:=6) fun K l=>?_;go_simp;refine kO l (fun _=>cE g ((eR _).alloc _)) (fun g=>?_);clear l K;have g:=g rfl;refine Wh (i:=7) (Rp _ _ [o1.2,cv] (ol w6 rfl (be.o.ext P) (ai.o.ext P)) cD.o) ?_;rintro e w7 ⟨r7,rfl,T,m⟩;obtain⟨aq,aI,aw,aM,au,aK,aG,rfl⟩:=T.form;refine⟨_,rfl,(cE g m),fun g=>?_⟩;obtain⟨_,_,_,_,_,_,_,x0,x1,x2,aj,ak,al,xz,_⟩:=((z.o.ext ((P.alloc _).trans m)).2.2.2.1).rd;obtain⟨_,_,_,_,_,_,_,y0,y1,y2,am,an,ao,yz,_⟩:=((z.o.ext ((P.alloc _).trans m)).2.2.2.2.1).rd;refine Jc (i:=8) fun K l=>?_;go_simp;refine kO l (fun h=>nomatch h) (fun g=>?_);clear l K;refine Jc (i:=9) fun K l=>?_;go_simp;refine kO l (fun h=>nomatch h) (fun g=>?_);clear l K;refine Kb kM ?_ _;obtain⟨W9,r⟩:=gX (((((((w7.setCell ⟨w.heap.size+1,0,Y⟩ (O ap aH av)).setCell ⟨w.heap.size+1,1,Y⟩ (Z aL)).setCell ⟨w.heap.size+1,2,Y⟩ (O ar aJ aF)).setCell ⟨w.heap.size+1+1,0,Y⟩ (O aq aI aw)).setCell ⟨w.heap.size+1+1,1,Y⟩ (Z aM)).setCell ⟨w.heap.size+1+1,2,Y⟩ (O au aK aG)));have t:=(pj.put2 (z.o.ext ((P.alloc _).trans m)) ((S.ext ((eR _).alloc _)).ext m) T rfl rfl).1;rw[r]at t ⊢;have t:=Aa t;clear r x0 x1 x2 aj ak al y0 y1 y2 am an ao g;go_wp2;go_roundg (n-(j+1+1))
          case measure=>have:=Hn.o;omega
          case rel=>exact⟨j+1+1,by rw[Hn.o];omega,by go_num,by rw[Hn.o],by rw[b2.o];exact t.o⟩
         case h2k2xx1 =>
          go_simp;refine kO l (fun _=>cE g ((eR _).alloc _)) (fun g=>?_);clear l K;have g:=g rfl;refine Wh (i:=3) (Qp _ _ [o1.1,cv] ((ol wc rfl bf.o ai.o).f ((eR _).alloc _).drew) cC.o) ?_;rintro e w6 ⟨r6,rfl,S,p⟩;obtain⟨ap,aH,av,aL,ar,aJ,aF,rfl⟩:=S.form;refine⟨_,rfl,(cE g p),fun g=>?_⟩;have P:Ba wc w6:=((((eR wc).alloc _).alloc _).drew).trans p;have R2:=(((ol _ (b:=wc.heap.size+1) sM (be.o.ext ((eR wc).alloc (J #[O pa pm ab,Z ps,O aa ad ac,O ua um uc,Z us,O a0 a8 a3] 63))) (ai.o.ext ((eR wc).alloc _))).f (eR _).drew).f p);refine Wh (i:=7) (Rp _ _ [o1.2,cv] R2 cD.o) ?_;rintro e w7 ⟨r7,rfl,T,m⟩;obtain⟨aq,aI,aw,aM,au,aK,aG,rfl⟩:=T.form;refine⟨_,rfl,(cE g m),fun g=>?_⟩;obtain⟨_,_,_,_,_,_,_,x0,x1,x2,aj,ak,al,xz,_⟩:=((z.o.ext (P.trans m)).2.2.2.1).rd;obtain⟨_,_,_,_,_,_,_,y0,y1,y2,am,an,ao,yz,_⟩:=((z.o.ext (P.trans m)).2.2.2.2.1).rd;refine Jc (i:=8) fun K l=>?_;go_simp;refine kO l (fun h=>nomatch h) (fun g=>?_);clear l K;refine Jc (i:=9) fun K l=>?_;go_simp;refine kO l (fun h=>nomatch h) (fun g=>?_);clear l K;refine Kb kM ?_ _;obtain⟨W9,r⟩:=gX (((((((w7.setCell ⟨w.heap.size+1,0,Y⟩ (O ap aH av)).setCell ⟨w.heap.size+1,1,Y⟩ (Z aL)).setCell ⟨w.heap.size+1,2,Y⟩ (O ar aJ aF)).setCell ⟨w.heap.size+1+1,0,Y⟩ (O aq aI aw)).setCell ⟨w.heap.size+1+1,1,Y⟩ (Z aM)).setCell ⟨w.heap.size+1+1,2,Y⟩ (O au aK aG)));have t:=(pj.put2 (z.o.ext (P.trans m)) (S.ext m) T rfl rfl).1;rw[r]at t ⊢;have t:=Aa t;clear r x0 x1 x2 aj ak al y0 y1 y2 am an ao g;go_wp2;go_roundg (n-(j+1+1))
          case measure=>have:=Hn.o;omega
          case rel=>exact⟨j+1+1,by rw[Hn.o];omega,by go_num,by rw[Hn.o],by rw[b2.o];exact t.o⟩
        case h2k1xx1 =>
         go_simp;refine kO l (fun _=>cE g ((eR _).alloc _)) (fun g=>?_);clear l K;have g:=g rfl;refine Jc (i:=2) fun K l=>?_;go_simp;refine kO l (fun _=>cE g ((eR _).alloc _)) (fun g=>?_);clear l K;have g:=g rfl;have R1:=((ol _ (b:=wc.heap.size+1) sM (bf.o.ext ((eR wc).alloc (J #[O ea em ec,Z es,O ax az ay,O ua um uc,Z us,O a0 a8 a3] 63))) (ai.o.ext ((eR wc).alloc _))).f (eR _).drew);refine Wh (i:=3) (Qp _ _ [o1.1,cv] R1 cC.o) ?_;rintro e w6 ⟨r6,rfl,S,p⟩;obtain⟨ap,aH,av,aL,ar,aJ,aF,rfl⟩:=S.form;refine⟨_,rfl,(cE g p),fun g=>?_⟩;have P:Ba wc w6:=((((eR wc).alloc _).alloc _).drew).trans p;refine Wh (i:=7) (Rp _ _ [o1.2,cv] (((ol wc rfl be.o ai.o).f ((eR _).alloc _).drew).f p) cD.o) ?_;rintro e w7 ⟨r7,rfl,T,m⟩;obtain⟨aq,aI,aw,aM,au,aK,aG,rfl⟩:=T.form;refine⟨_,rfl,(cE g m),fun g=>?_⟩;obtain⟨_,_,_,_,_,_,_,x0,x1,x2,aj,ak,al,xz,_⟩:=((z.o.ext (P.trans m)).2.2.2.1).rd;obtain⟨_,_,_,_,_,_,_,y0,y1,y2,am,an,ao,yz,_⟩:=((z.o.ext (P.trans m)).2.2.2.2.1).rd;refine Jc (i:=8) fun K l=>?_;go_simp;refine kO l (fun h=>nomatch h) (fun g=>?_);clear l K;refine Jc (i:=9) fun K l=>?_;go_simp;refine kO l (fun h=>nomatch h) (fun g=>?_);clear l K;refine Kb kM ?_ _;obtain⟨W9,r⟩:=gX (((((((w7.setCell ⟨w.heap.size+1,0,Y⟩ (O ap aH av)).setCell ⟨w.heap.size+1,1,Y⟩ (Z aL)).setCell ⟨w.heap.size+1,2,Y⟩ (O ar aJ aF)).setCell ⟨w.heap.size+1+1,0,Y⟩ (O aq aI aw)).setCell ⟨w.heap.size+1+1,1,Y⟩ (Z aM)).setCell ⟨w.heap.size+1+1,2,Y⟩ (O au aK aG)));have t:=(pj.put2 (z.o.ext (P.trans m)) (S.ext m) T rfl rfl).1;rw[r]at t ⊢;have t:=Aa t;clear r x0 x1 x2 aj ak al y0 y1 y2 am an ao g;go_wp2;go_roundg (n-(j+1+1))
         case measure=>have:=Hn.o;omega
         case rel=>exact⟨j+1+1,by rw[Hn.o];omega,by go_num,by rw[Hn.o],by rw[b2.o];exact t.o⟩
      ·(have eo:decide (km<0)=false:=by simpa using aD);go_wp2;go_roundg (n-(j+1+1))
       case measure=>have:=Hn.o;omega
       case rel=>exact⟨j+1+1,by rw[Hn.o];omega,by go_num,by rw[Hn.o],by rw[c3.o,if_neg (Int.not_lt.2 aD)];exact G3⟩
  ·obtain rfl:i=n:=oM;obtain⟨y1,y2,y3,db,dc,y6⟩:=hI;have Y1:=Aa y1;clear y1 y3 y6 t HT HG dW bq cf;go_wp2;obtain⟨pa,pm,ab,ps,aa,ad,ac,p0,p1,p2,bY,bZ,b0,pz,dq⟩:=db.rd;obtain⟨ea,em,ec,es,ax,az,ay,e0,e1,e2,bA,bB,bC,ez,dr⟩:=dc.rd;refine Nh (fun i=>decide (2<i)) (Da [(⟨w.heap.size+1,0,Y⟩,O pa pm ab),(⟨w.heap.size+1,1,Y⟩,Z ps),(⟨w.heap.size+1,2,Y⟩,O aa ad ac),(⟨w.heap.size+1+1,0,Y⟩,O ea em ec),(⟨w.heap.size+1+1,1,Y⟩,Z es),(⟨w.heap.size+1+1,2,Y⟩,O ax az ay)]) kM ?_ (fun g=>?_)
   ·exact cA
   refine sN 0 ?_
   iterate 2 refine Yh ?_
   refine oN ?_;refine Jc (i:=2) fun K l=>?_;go_simp;refine kO l (fun _=>?_) (fun g=>?_)
   ·exact cA
   clear l K;have g:=g rfl;refine Jc (i:=3) fun K l=>?_;go_simp;refine kO l (fun h=>nomatch h) (fun g=>?_);clear l K;refine Jc (i:=4) fun K l=>?_;go_simp;refine kO l (fun h=>nomatch h) (fun g=>?_);clear l K;refine Kb kM ?_ _;go_wp2;refine bR (v:=.tuple #[E #[O pa pm ab,Z ps,O aa ad ac],E #[O ea em ec,Z es,O ax az ay],Z true]) (by simp[results,Tryz.results143,go_sem,p0,p1,p2,bY,bZ,b0,e0,e1,e2,bA,bB,bC]) rfl ?_;rw[<-HR.o];obtain⟨P1,P2,P3,P4,P5,P6⟩:=RB.copy2 db dc oM dq dr rfl rfl;refine⟨(P6 w Y1.o oM oM).drew,E #[O pa pm ab,Z ps,O aa ad ac],E #[O ea em ec,Z es,O ax az ay],?_,?_,rfl⟩
   ·exact(dq.keep P4).ext (eR _).drew
   ·exact(dr.keep P4).ext (eR _).drew
